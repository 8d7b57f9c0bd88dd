/- Walks along the models. Printed by a program. -/
import Derived.Test.YtodipncpfipjnaaGreatDoorYvw3
namespace Go.Proofs.YtodipncpfipjnaaGreatDoor
open Go.RowKit
set_option linter.unusedVariables false
set_option maxRecDepth 20000
theorem k_gateref2_HostOf (v1 : Bs) (r : (Bs × Int)) (H : m_gateref2_HostOf v1 = some r) : Fn Tryz.prog 35 [vstr v1] (resOf [vstr r.1, vint r.2]) := by
  refine ⟨by kernel_rfl, pure_of (us := [vstr r.1, vint r.2]) Tryz.func35 rfl rfl rfl rfl fun X hN => ?_⟩
  unfold m_gateref2_HostOf at H
  refine awp_seq ?_
  refine awp_plain hN rfl ?_
  refine seq_run0 (stp_assign (.dat _) rfl) ?_
  refine seq_run0 (stp_assign (.dat _) rfl) ?_
  refine awp_seq ?_
  refine awp_plain hN rfl ?_
  refine seq_run0 (stp_move (.dat _) rfl) ?_
  obtain ⟨r2, h3, H⟩ := bnd H
  refine seq_run0 (stp_call (k_strings_Cut v1 [58] r2 h3) ⟨.inl rfl, .inl rfl, trivial⟩) ?_
  refine seq_run0 (stp_move (.dat _) rfl) ?_
  refine seq_run0 (stp_ext rfl rfl) ?_
  refine seq_run0 (stp_ext rfl rfl) ?_
  refine seq_run0 (stp_ext rfl rfl) ?_
  refine seq_run0 (stp_assign (.dat _) rfl) ?_
  refine seq_run0 (stp_assign (.dat _) rfl) ?_
  refine seq_run0 (stp_assign (.dat _) rfl) ?_
  refine awp_seq ?_
  refine awp_plain hN rfl ?_
  refine seq_run0 (stp_move (.dat _) rfl) ?_
  obtain ⟨r4, h5, H⟩ := bnd H
  refine seq_run0 (stp_call (k_gateref2_Number r2.2.1 5 r4 h5) ⟨.inl rfl, .inl rfl, trivial⟩) ?_
  refine seq_run0 (stp_move (.dat _) rfl) ?_
  refine seq_run0 (stp_ext rfl rfl) ?_
  refine seq_run0 (stp_ext rfl rfl) ?_
  refine seq_run0 (stp_assign (.dat _) rfl) ?_
  refine seq_run0 (stp_assign (.dat _) rfl) ?_
  refine awp_seq ?_
  refine awp_joinE (ι := Bool) (fun i => [(4, .dat (vstr r2.1)), (5, .dat (vstr r2.2.1)), (6, .dat (vbool r2.2.2)), (7, .dat (vint r4.1)), (37, .dat (vbool i))]) (fun i => []) (fun i => gateref2_HostOf_J1 r2 r4 i = some r) (fun i => rfl) ?_ ?_
  · skip
    refine awp_plain hN rfl ?_
    refine seq_run0 (stp_move (.dat _) rfl) ?_
    refine seq_run0 (stp_len_str tyU9 rfl) ?_
    refine seq_run0 (stp_gtr rfl rfl) ?_
    refine seq_run0 (stp_move (.dat _) rfl) ?_
    refine seq_split (j := 3) rfl rfl (fun h6 => ?_) (fun h6 => ?_) rfl
    · have h7 := un3 h6
      replace H := iff_ h7 H
      refine seq_g0 rfl rfl h6 (stp_move (.dat _) rfl) ?_
      refine seq_g0 rfl rfl h6 (stp_move (.dat _) rfl) ?_
      refine seq_split (j := 5) rfl rfl (fun h8 => ?_) (fun h8 => ?_) rfl
      · have h9 := un1 h8
        replace H := ift h9 H
        refine seq_g0 rfl rfl h8 (stp_move (.dat _) rfl) ?_
        refine seq_g0 rfl rfl h8 (stp_not rfl) ?_
        refine seq_g0 rfl rfl h8 (stp_move (.dat _) rfl) ?_
        refine seq_split (j := 8) rfl rfl (fun h10 => ?_) (fun h10 => ?_) rfl
        · have h11 := un3 h10
          replace H := iff_ h11 H
          refine seq_g0 rfl rfl h10 (stp_move (.dat _) rfl) ?_
          obtain ⟨r12, h13, H⟩ := bnd H
          refine seq_g0 rfl rfl h10 (stp_call (k_gateref2_in r4.1 1 65535 r12 h13) ⟨.inl rfl, .inl rfl, .inl rfl, trivial⟩) ?_
          refine seq_g0 rfl rfl h10 (stp_not rfl) ?_
          refine seq_g0 rfl rfl h8 (stp_pick_f rfl (bFF h11) rfl) ?_
          refine seq_g0 rfl rfl h6 (stp_pick_t rfl (bTT h9) rfl) ?_
          refine seq_run0 (stp_pick_f rfl (bFF h7) rfl) ?_
          exact ⟨!r12, H, ⟨rfl, rfl, rfl, rfl, rfl, trivial⟩, trivial⟩
        · have h14 := un4 h10
          replace H := ift h14 H
          refine seq_skip rfl rfl h10 ?_
          refine seq_skip rfl rfl h10 ?_
          refine seq_skip rfl rfl h10 ?_
          refine seq_g0 rfl rfl h8 (stp_pick_t rfl (bTT h14) rfl) ?_
          refine seq_g0 rfl rfl h6 (stp_pick_t rfl (bTT h9) rfl) ?_
          refine seq_run0 (stp_pick_f rfl (bFF h7) rfl) ?_
          exact ⟨true, H, ⟨rfl, rfl, rfl, rfl, rfl, trivial⟩, trivial⟩
      · have h15 := un2 h8
        replace H := iff_ h15 H
        refine seq_skip rfl rfl h8 ?_
        refine seq_skip rfl rfl h8 ?_
        refine seq_skip rfl rfl h8 ?_
        refine seq_skipU rfl rfl ?_
        refine seq_skipU rfl rfl ?_
        refine seq_skipU rfl rfl ?_
        refine seq_skip rfl rfl h8 ?_
        refine seq_g0 rfl rfl h6 (stp_pick_f rfl (bFF h15) rfl) ?_
        refine seq_run0 (stp_pick_f rfl (bFF h7) rfl) ?_
        exact ⟨false, H, ⟨rfl, rfl, rfl, rfl, rfl, trivial⟩, trivial⟩
    · have h16 := un4 h6
      replace H := ift h16 H
      refine seq_skip rfl rfl h6 ?_
      refine seq_skip rfl rfl h6 ?_
      refine seq_skipU rfl rfl ?_
      refine seq_skipU rfl rfl ?_
      refine seq_skipU rfl rfl ?_
      refine seq_skipU rfl rfl ?_
      refine seq_skipU rfl rfl ?_
      refine seq_skipU rfl rfl ?_
      refine seq_skipU rfl rfl ?_
      refine seq_skip rfl rfl h6 ?_
      refine seq_run0 (stp_pick_t rfl (bTT h16) rfl) ?_
      exact ⟨true, H, ⟨rfl, rfl, rfl, rfl, rfl, trivial⟩, trivial⟩
  · rintro v17 H
    replace H : gateref2_HostOf_J1 r2 r4 v17 = some r := H
    unfold gateref2_HostOf_J1 at H
    refine awp_cond _ rfl (fun h18 => ?_) (fun h18 => ?_)
    · replace H := ift h18 H
      refine awp_seq ?_
      refine awp_plain hN rfl ?_
      refine seq_run0 (stp_assign (.dat _) rfl) ?_
      refine seq_run0 (stp_assign (.dat _) rfl) ?_
      refine awp_ret ?_
      cases H
      exact ⟨trivial, .inl rfl, .inl rfl, trivial⟩
    · replace H := iff_ h18 H
      refine awp_skip ?_
      refine awp_seq ?_
      refine awp_seq ?_
      refine awp_plain hN rfl ?_
      refine seq_run0 (stp_move (.dat _) rfl) ?_
      obtain ⟨r19, h20, H⟩ := bnd H
      refine seq_run0 (stp_call (k_strings_Split r2.1 [46] r19 h20) ⟨.inl rfl, .inl rfl, trivial⟩) ?_
      refine seq_run0 (t_len tyU87 rfl) ?_
      refine seq_run0 (stp_move (.dat _) rfl) ?_
      refine awp_block ?_
      obtain ⟨h23, H⟩ := gif H
      refine awp_forL (fun (k21 : Nat) (s : Unit) => [(4, .dat (vstr r2.1)), (5, .dat (vstr r2.2.1)), (6, .dat (vbool r2.2.2)), (7, .dat (vint r4.1)), (39, .dat (vlst (List.map C_string r19))), (40, .dat (vint (r19.length : Int))), (41, .dat (vint (k21 : Int)))]) (fun (k21 : Nat) (s : Unit) => []) () H ⟨rfl, rfl, rfl, rfl, rfl, rfl, rfl, trivial⟩ trivial (fun _ _ => rfl) ?_ ?_
      · rintro ⟨⟩ H
        replace H : gateref2_HostOf_E2 r2 r4 = some r := H
        unfold gateref2_HostOf_E2 at H
        refine awp_seq ?_
        refine awp_plain hN rfl ?_
        refine seq_run0 (stp_lss rfl rfl) ?_
        refine awp_seq ?_
        refine awp_cond _ rfl (fun h => (lt_t h).elim) (fun h => ?_)
        refine awp_exit ?_
        refine awp_seq ?_
        refine awp_plain hN rfl ?_
        refine seq_run0 (stp_move (.dat _) rfl) ?_
        obtain ⟨r25, h26, H⟩ := bnd H
        refine seq_run0 (stp_call (k_strings_ToLower r2.1 r25 h26) ⟨.inl rfl, trivial⟩) ?_
        refine seq_run0 (stp_assign (.dat _) rfl) ?_
        refine awp_joinE (ι := Bs) (fun i => [(11, .dat (vstr i))]) (fun i => []) (fun i => gateref2_HostOf_J3 i = some r) (fun i => rfl) ?_ ?_
        · skip
          refine awp_seq ?_
          refine awp_plain hN rfl ?_
          refine seq_run0 (stp_move (.dat _) rfl) ?_
          refine seq_run0 (stp_move (.dat _) rfl) ?_
          refine seq_aT rfl rfl (fun hc => stp_move (.dat _) rfl) ?_
          refine seq_aT rfl rfl (fun hc => stp_neq (cnd (c := r2.2.2) hc) rfl) ?_
          refine seq_run0 (stp_pick_and rfl (fun hb => (cnd (c := r2.2.2) hb)) rfl) ?_
          refine seq_run0 (stp_move (.dat _) rfl) ?_
          refine seq_aT rfl rfl (fun hc => stp_move (.dat _) rfl) ?_
          refine seq_aT rfl rfl (fun hc => stp_neq (cnd (c := (r2.2.2 && (decide (r4.1 ≠ 80)))) hc) rfl) ?_
          refine seq_run0 (stp_pick_and rfl (fun hb => (cnd (c := (r2.2.2 && (decide (r4.1 ≠ 80)))) hb)) rfl) ?_
          refine awp_cond _ rfl (fun h27 => ?_) (fun h27 => ?_)
          · replace H := ift h27 H
            refine awp_plain hN rfl ?_
            refine seq_run0 (stp_move (.dat _) rfl) ?_
            refine seq_run0 (stp_move (.dat _) rfl) ?_
            obtain ⟨h28, H⟩ := gif H
            refine seq_run0 (stp_sadd rfl rfl (Nat.le_trans h28 (by decide))) ?_
            obtain ⟨h29, H⟩ := gif H
            refine seq_run0 (stp_sadd rfl rfl (Nat.le_trans h29 (by decide))) ?_
            refine seq_run0 (stp_assign (.dat _) rfl) ?_
            exact ⟨(r25 ++ ([58] ++ r2.2.1)), H, ⟨rfl, trivial⟩, trivial⟩
          · replace H := iff_ h27 H
            refine awp_skip ?_
            exact ⟨r25, H, ⟨rfl, trivial⟩, trivial⟩
        · rintro v30 H
          replace H : gateref2_HostOf_J3 v30 = some r := H
          unfold gateref2_HostOf_J3 at H
          refine awp_seq ?_
          refine awp_plain hN rfl ?_
          refine seq_run0 (stp_move (.dat _) rfl) ?_
          refine seq_run0 (stp_assign (.dat _) rfl) ?_
          refine seq_run0 (stp_assign (.dat _) rfl) ?_
          refine awp_ret ?_
          cases H
          exact ⟨trivial, .inl rfl, .inl rfl, trivial⟩
      · rintro k21 x24 ⟨⟩ q22 h31 h32 H hq22
        replace H : gateref2_HostOf_L2 k21 x24 = some q22 := H
        unfold gateref2_HostOf_L2 at H
        refine awp_seq ?_
        refine awp_plain hN rfl ?_
        refine seq_run0 (stp_lss rfl rfl) ?_
        refine awp_seq ?_
        refine awp_cond _ rfl (fun h => ?_) (fun h => (lt_f h31 h).elim)
        refine awp_skip ?_
        refine awp_seq ?_
        refine awp_block ?_
        refine awp_seq ?_
        refine awp_plain hN rfl ?_
        refine seq_run0 (t_idx tyE87 (fun _ => rfl) rfl rfl h32) ?_
        refine seq_run0 (stp_loadE1 tyS9 rfl (map_at h32) rfl) ?_
        refine seq_run0 (stp_assign (.dat _) rfl) ?_
        refine awp_joinE (ι := Bool) (fun i => [(4, .dat (vstr r2.1)), (5, .dat (vstr r2.2.1)), (6, .dat (vbool r2.2.2)), (7, .dat (vint r4.1)), (39, .dat (vlst (List.map C_string r19))), (40, .dat (vint (r19.length : Int))), (41, .dat (vint (k21 : Int))), (59, .dat (vbool i))]) (fun i => []) (fun i => gateref2_HostOf_J4 i = some q22) (fun i => rfl) ?_ ?_
        · skip
          refine awp_plain hN rfl ?_
          refine seq_run0 (stp_move (.dat _) rfl) ?_
          refine seq_run0 (stp_len_str tyU9 rfl) ?_
          obtain ⟨r33, h34, H⟩ := bnd H
          refine seq_run0 (stp_call (k_gateref2_in (x24.length : Int) 1 63 r33 h34) ⟨.inl rfl, .inl rfl, .inl rfl, trivial⟩) ?_
          refine seq_run0 (stp_not rfl) ?_
          refine seq_run0 (stp_move (.dat _) rfl) ?_
          refine seq_split (j := 4) rfl rfl (fun h35 => ?_) (fun h35 => ?_) rfl
          · have h36 := un3 h35
            replace H := iff_ h36 H
            refine seq_g0 rfl rfl h35 (stp_move (.dat _) rfl) ?_
            obtain ⟨r37, h38, H⟩ := bnd H
            refine seq_g0 rfl rfl h35 (stp_call (k_gateref2_only x24 [97, 98, 99, 100, 101, 102, 103, 104, 105, 106, 107, 108, 109, 110, 111, 112, 113, 114, 115, 116, 117, 118, 119, 120, 121, 122, 65, 66, 67, 68, 69, 70, 71, 72, 73, 74, 75, 76, 77, 78, 79, 80, 81, 82, 83, 84, 85, 86, 87, 88, 89, 90, 48, 49, 50, 51, 52, 53, 54, 55, 56, 57, 45] r37 h38) ⟨.inl rfl, .inl rfl, trivial⟩) ?_
            refine seq_g0 rfl rfl h35 (stp_not rfl) ?_
            refine seq_run0 (stp_pick_f rfl (bFF h36) rfl) ?_
            refine seq_run0 (stp_move (.dat _) rfl) ?_
            refine seq_split (j := 9) rfl rfl (fun h39 => ?_) (fun h39 => ?_) rfl
            · have h40 := un3 h39
              replace H := iff_ h40 H
              refine seq_g0 rfl rfl h39 (stp_move (.dat _) rfl) ?_
              obtain ⟨r41, h42, H⟩ := bnd H
              refine seq_g0 rfl rfl h39 (stp_call (k_strings_Trim x24 [45] r41 h42) ⟨.inl rfl, .inl rfl, trivial⟩) ?_
              refine seq_g0 rfl rfl h39 (stp_move (.dat _) rfl) ?_
              refine seq_g0 rfl rfl h39 (stp_sneq rfl rfl) ?_
              refine seq_run0 (stp_pick_f rfl (bFF h40) rfl) ?_
              exact ⟨decide (r41 ≠ x24), H, ⟨rfl, rfl, rfl, rfl, rfl, rfl, rfl, rfl, trivial⟩, trivial⟩
            · have h43 := un4 h39
              replace H := ift h43 H
              refine seq_skip rfl rfl h39 ?_
              refine seq_skip rfl rfl h39 ?_
              refine seq_skip rfl rfl h39 ?_
              refine seq_skip rfl rfl h39 ?_
              refine seq_run0 (stp_pick_t rfl (bTT h43) rfl) ?_
              exact ⟨true, H, ⟨rfl, rfl, rfl, rfl, rfl, rfl, rfl, rfl, trivial⟩, trivial⟩
          · have h44 := un4 h35
            replace H := ift h44 H
            refine seq_skip rfl rfl h35 ?_
            refine seq_skip rfl rfl h35 ?_
            refine seq_skip rfl rfl h35 ?_
            refine seq_run0 (stp_pick_t rfl (bTT h44) rfl) ?_
            refine seq_run0 (stp_move (.dat _) rfl) ?_
            refine seq_skip rfl rfl rfl ?_
            refine seq_skip rfl rfl rfl ?_
            refine seq_skip rfl rfl rfl ?_
            refine seq_skip rfl rfl rfl ?_
            refine seq_run0 (stp_pick_t rfl rfl rfl) ?_
            exact ⟨true, H, ⟨rfl, rfl, rfl, rfl, rfl, rfl, rfl, rfl, trivial⟩, trivial⟩
        · rintro v45 H
          replace H : gateref2_HostOf_J4 v45 = some q22 := H
          unfold gateref2_HostOf_J4 at H
          refine awp_cond _ rfl (fun h46 => ?_) (fun h46 => ?_)
          · replace H := ift h46 H
            refine awp_seq ?_
            refine awp_plain hN rfl ?_
            refine seq_run0 (stp_assign (.dat _) rfl) ?_
            refine seq_run0 (stp_assign (.dat _) rfl) ?_
            refine awp_ret ?_
            replace H := retl H hq22
            cases H
            exact ⟨trivial, .inl rfl, .inl rfl, trivial⟩
          · replace H := iff_ h46 H
            refine awp_skip ?_
            refine awp_plain hN rfl ?_
            refine seq_run0 (stp_add rfl rfl (by omega)) ?_
            refine seq_run0 (stp_move (.dat _) rfl) ?_
            exact ⟨_, backl H, ⟨rfl, rfl, rfl, rfl, rfl, rfl, rfl, trivial⟩, trivial⟩
theorem k_gateref2_visible (s1 : Bs) (low2 : Int) (r : (Bool)) (H : m_gateref2_visible s1 low2 = some r) : Fn Tryz.prog 75 [vstr s1, vval (.int .u8 low2)] (resOf [vbool r]) := by
  refine ⟨by kernel_rfl, pure_of (us := [vbool r]) Tryz.func75 rfl rfl rfl rfl fun X hN => ?_⟩
  unfold m_gateref2_visible at H
  refine awp_seq ?_
  refine awp_plain hN rfl ?_
  refine seq_run0 (stp_assign (.dat _) rfl) ?_
  refine awp_seq ?_
  refine awp_seq ?_
  refine awp_plain hN rfl ?_
  refine seq_run0 (stp_move (.dat _) rfl) ?_
  refine seq_run0 (stp_len_str tyU9 rfl) ?_
  refine seq_run0 (stp_move (.dat _) rfl) ?_
  refine awp_block ?_
  obtain ⟨h5, H⟩ := gif H
  refine awp_forL (fun (k3 : Nat) (s : Unit) => [(0, .dat (vstr s1)), (1, .dat (vval (.int .u8 low2))), (7, .dat (vint (s1.length : Int))), (8, .dat (vint (k3 : Int)))]) (fun (k3 : Nat) (s : Unit) => []) () H ⟨rfl, rfl, rfl, rfl, trivial⟩ trivial (fun _ _ => rfl) ?_ ?_
  · rintro ⟨⟩ H
    replace H : gateref2_visible_E1 = some r := H
    unfold gateref2_visible_E1 at H
    refine awp_seq ?_
    refine awp_plain hN rfl ?_
    refine seq_run0 (stp_lss rfl rfl) ?_
    refine awp_seq ?_
    refine awp_cond _ rfl (fun h => (lt_t h).elim) (fun h => ?_)
    refine awp_exit ?_
    refine awp_seq ?_
    refine awp_plain hN rfl ?_
    refine seq_run0 (stp_assign (.dat _) rfl) ?_
    refine awp_ret ?_
    cases H
    exact ⟨trivial, .inl rfl, trivial⟩
  · rintro k3 x6 ⟨⟩ q4 h7 h8 H hq4
    replace H : gateref2_visible_L1 low2 k3 x6 = some q4 := H
    unfold gateref2_visible_L1 at H
    refine awp_seq ?_
    refine awp_plain hN rfl ?_
    refine seq_run0 (stp_lss rfl rfl) ?_
    refine awp_seq ?_
    refine awp_cond _ rfl (fun h => ?_) (fun h => (lt_f h7 h).elim)
    refine awp_skip ?_
    refine awp_seq ?_
    refine awp_block ?_
    refine awp_seq ?_
    refine awp_plain hN rfl ?_
    refine seq_run0 (stp_move (.dat _) rfl) ?_
    refine seq_run0 (stp_assign (.dat _) rfl) ?_
    refine awp_joinE (ι := Bool) (fun i => [(0, .dat (vstr s1)), (1, .dat (vval (.int .u8 low2))), (7, .dat (vint (s1.length : Int))), (8, .dat (vint (k3 : Int))), (21, .dat (vbool i))]) (fun i => []) (fun i => gateref2_visible_J2 i = some q4) (fun i => rfl) ?_ ?_
    · skip
      refine awp_plain hN rfl ?_
      refine seq_run0 (stp_move (.dat _) rfl) ?_
      refine seq_run0 (stp_move (.dat _) rfl) ?_
      refine seq_run0 (t_byte tyU9 rfl rfl h8) ?_
      refine seq_run0 (stp_move (.dat _) rfl) ?_
      refine seq_run0 (stp_lss rfl rfl) ?_
      refine seq_run0 (stp_move (.dat _) rfl) ?_
      refine seq_split (j := 5) rfl rfl (fun h9 => ?_) (fun h9 => ?_) rfl
      · have h10 := un3 h9
        replace H := iff_ h10 H
        refine seq_g0 rfl rfl h9 (stp_move (.dat _) rfl) ?_
        refine seq_g0 rfl rfl h9 (stp_move (.dat _) rfl) ?_
        refine seq_g0 rfl rfl h9 (t_byte tyU9 rfl rfl h8) ?_
        refine seq_g0 rfl rfl h9 (stp_gtr rfl rfl) ?_
        refine seq_run0 (stp_pick_f rfl (bFF h10) rfl) ?_
        exact ⟨decide (126 < (x6.toNat : Int)), H, ⟨rfl, rfl, rfl, rfl, rfl, trivial⟩, trivial⟩
      · have h11 := un4 h9
        replace H := ift h11 H
        refine seq_skip rfl rfl h9 ?_
        refine seq_skip rfl rfl h9 ?_
        refine seq_skip rfl rfl h9 ?_
        refine seq_skip rfl rfl h9 ?_
        refine seq_run0 (stp_pick_t rfl (bTT h11) rfl) ?_
        exact ⟨true, H, ⟨rfl, rfl, rfl, rfl, rfl, trivial⟩, trivial⟩
    · rintro v12 H
      replace H : gateref2_visible_J2 v12 = some q4 := H
      unfold gateref2_visible_J2 at H
      refine awp_cond _ rfl (fun h13 => ?_) (fun h13 => ?_)
      · replace H := ift h13 H
        refine awp_seq ?_
        refine awp_plain hN rfl ?_
        refine seq_run0 (stp_assign (.dat _) rfl) ?_
        refine awp_ret ?_
        replace H := retl H hq4
        cases H
        exact ⟨trivial, .inl rfl, trivial⟩
      · replace H := iff_ h13 H
        refine awp_skip ?_
        refine awp_plain hN rfl ?_
        refine seq_run0 (stp_add rfl rfl (by omega)) ?_
        refine seq_run0 (stp_move (.dat _) rfl) ?_
        exact ⟨_, backl H, ⟨rfl, rfl, rfl, rfl, trivial⟩, trivial⟩
theorem k_gateref2_pathForm (s1 : Bs) (r : (Bool)) (H : m_gateref2_pathForm s1 = some r) : Fn Tryz.prog 36 [vstr s1] (resOf [vbool r]) := by
  refine ⟨by kernel_rfl, pure_of (us := [vbool r]) Tryz.func36 rfl rfl rfl rfl fun X hN => ?_⟩
  unfold m_gateref2_pathForm at H
  refine awp_seq ?_
  refine awp_plain hN rfl ?_
  refine seq_run0 (stp_assign (.dat _) rfl) ?_
  refine awp_joinE (ι := Bool) (fun i => [(2, .dat (vbool i))]) (fun i => []) (fun i => gateref2_pathForm_J1 i = some r) (fun i => rfl) ?_ ?_
  · skip
    refine awp_plain hN rfl ?_
    refine seq_run0 (stp_move (.dat _) rfl) ?_
    refine seq_run0 (stp_len_str tyU9 rfl) ?_
    obtain ⟨r2, h3, H⟩ := bnd H
    refine seq_run0 (stp_call (k_gateref2_in (s1.length : Int) 1 1000 r2 h3) ⟨.inl rfl, .inl rfl, .inl rfl, trivial⟩) ?_
    refine seq_run0 (stp_move (.dat _) rfl) ?_
    refine seq_split (j := 3) rfl rfl (fun h4 => ?_) (fun h4 => ?_) rfl
    · have h5 := un1 h4
      replace H := ift h5 H
      refine seq_g0 rfl rfl h4 (stp_move (.dat _) rfl) ?_
      obtain ⟨x6, h7, H⟩ := bnd H
      refine seq_g0 rfl rfl h4 (t_byte tyU9 rfl rfl h7) ?_
      refine seq_g0 rfl rfl h4 (stp_eql rfl rfl) ?_
      refine seq_run0 (stp_pick_t rfl (bTT h5) rfl) ?_
      refine seq_run0 (stp_move (.dat _) rfl) ?_
      refine seq_split (j := 8) rfl rfl (fun h8 => ?_) (fun h8 => ?_) rfl
      · have h9 := un1 h8
        replace H := ift h9 H
        refine seq_g0 rfl rfl h8 (stp_move (.dat _) rfl) ?_
        obtain ⟨r10, h11, H⟩ := bnd H
        refine seq_g0 rfl rfl h8 (stp_call (k_gateref2_visible s1 33 r10 h11) ⟨.inl rfl, .inl rfl, trivial⟩) ?_
        refine seq_run0 (stp_pick_t rfl (bTT h9) rfl) ?_
        refine seq_run0 (stp_move (.dat _) rfl) ?_
        refine seq_split (j := 12) rfl rfl (fun h12 => ?_) (fun h12 => ?_) rfl
        · have h13 := un1 h12
          replace H := ift h13 H
          refine seq_g0 rfl rfl h12 (stp_move (.dat _) rfl) ?_
          obtain ⟨r14, h15, H⟩ := bnd H
          refine seq_g0 rfl rfl h12 (stp_call (k_strings_ContainsAny s1 [63, 35] r14 h15) ⟨.inl rfl, .inl rfl, trivial⟩) ?_
          refine seq_g0 rfl rfl h12 (stp_not rfl) ?_
          refine seq_run0 (stp_pick_t rfl (bTT h13) rfl) ?_
          refine seq_run0 (stp_assign (.dat _) rfl) ?_
          exact ⟨!r14, H, ⟨rfl, trivial⟩, trivial⟩
        · have h16 := un2 h12
          replace H := iff_ h16 H
          refine seq_skip rfl rfl h12 ?_
          refine seq_skip rfl rfl h12 ?_
          refine seq_skip rfl rfl h12 ?_
          refine seq_run0 (stp_pick_f rfl (bFF h16) rfl) ?_
          refine seq_run0 (stp_assign (.dat _) rfl) ?_
          exact ⟨false, H, ⟨rfl, trivial⟩, trivial⟩
      · have h17 := un2 h8
        replace H := iff_ h17 H
        refine seq_skip rfl rfl h8 ?_
        refine seq_skip rfl rfl h8 ?_
        refine seq_run0 (stp_pick_f rfl (bFF h17) rfl) ?_
        refine seq_run0 (stp_move (.dat _) rfl) ?_
        refine seq_skip rfl rfl rfl ?_
        refine seq_skip rfl rfl rfl ?_
        refine seq_skip rfl rfl rfl ?_
        refine seq_run0 (stp_pick_f rfl rfl rfl) ?_
        refine seq_run0 (stp_assign (.dat _) rfl) ?_
        exact ⟨false, H, ⟨rfl, trivial⟩, trivial⟩
    · have h18 := un2 h4
      replace H := iff_ h18 H
      refine seq_skip rfl rfl h4 ?_
      refine seq_skip rfl rfl h4 ?_
      refine seq_skip rfl rfl h4 ?_
      refine seq_run0 (stp_pick_f rfl (bFF h18) rfl) ?_
      refine seq_run0 (stp_move (.dat _) rfl) ?_
      refine seq_skip rfl rfl rfl ?_
      refine seq_skip rfl rfl rfl ?_
      refine seq_run0 (stp_pick_f rfl rfl rfl) ?_
      refine seq_run0 (stp_move (.dat _) rfl) ?_
      refine seq_skip rfl rfl rfl ?_
      refine seq_skip rfl rfl rfl ?_
      refine seq_skip rfl rfl rfl ?_
      refine seq_run0 (stp_pick_f rfl rfl rfl) ?_
      refine seq_run0 (stp_assign (.dat _) rfl) ?_
      exact ⟨false, H, ⟨rfl, trivial⟩, trivial⟩
  · rintro v19 H
    replace H : gateref2_pathForm_J1 v19 = some r := H
    unfold gateref2_pathForm_J1 at H
    refine awp_ret ?_
    cases H
    exact ⟨trivial, .inl rfl, trivial⟩
theorem k_gateref2_queryForm (s1 : Bs) (r : (Bool)) (H : m_gateref2_queryForm s1 = some r) : Fn Tryz.prog 37 [vstr s1] (resOf [vbool r]) := by
  refine ⟨by kernel_rfl, pure_of (us := [vbool r]) Tryz.func37 rfl rfl rfl rfl fun X hN => ?_⟩
  unfold m_gateref2_queryForm at H
  refine awp_seq ?_
  refine awp_plain hN rfl ?_
  refine seq_run0 (stp_assign (.dat _) rfl) ?_
  refine awp_joinE (ι := Bool) (fun i => [(2, .dat (vbool i))]) (fun i => []) (fun i => gateref2_queryForm_J1 i = some r) (fun i => rfl) ?_ ?_
  · skip
    refine awp_plain hN rfl ?_
    refine seq_run0 (stp_move (.dat _) rfl) ?_
    refine seq_run0 (stp_len_str tyU9 rfl) ?_
    refine seq_run0 (stp_leq rfl rfl) ?_
    refine seq_run0 (stp_move (.dat _) rfl) ?_
    refine seq_split (j := 3) rfl rfl (fun h2 => ?_) (fun h2 => ?_) rfl
    · have h3 := un1 h2
      replace H := ift h3 H
      refine seq_g0 rfl rfl h2 (stp_move (.dat _) rfl) ?_
      obtain ⟨r4, h5, H⟩ := bnd H
      refine seq_g0 rfl rfl h2 (stp_call (k_gateref2_visible s1 33 r4 h5) ⟨.inl rfl, .inl rfl, trivial⟩) ?_
      refine seq_run0 (stp_pick_t rfl (bTT h3) rfl) ?_
      refine seq_run0 (stp_move (.dat _) rfl) ?_
      refine seq_split (j := 7) rfl rfl (fun h6 => ?_) (fun h6 => ?_) rfl
      · have h7 := un1 h6
        replace H := ift h7 H
        refine seq_g0 rfl rfl h6 (stp_move (.dat _) rfl) ?_
        obtain ⟨r8, h9, H⟩ := bnd H
        refine seq_g0 rfl rfl h6 (stp_call (k_strings_Contains s1 [35] r8 h9) ⟨.inl rfl, .inl rfl, trivial⟩) ?_
        refine seq_g0 rfl rfl h6 (stp_not rfl) ?_
        refine seq_run0 (stp_pick_t rfl (bTT h7) rfl) ?_
        refine seq_run0 (stp_assign (.dat _) rfl) ?_
        exact ⟨!r8, H, ⟨rfl, trivial⟩, trivial⟩
      · have h10 := un2 h6
        replace H := iff_ h10 H
        refine seq_skip rfl rfl h6 ?_
        refine seq_skip rfl rfl h6 ?_
        refine seq_skip rfl rfl h6 ?_
        refine seq_run0 (stp_pick_f rfl (bFF h10) rfl) ?_
        refine seq_run0 (stp_assign (.dat _) rfl) ?_
        exact ⟨false, H, ⟨rfl, trivial⟩, trivial⟩
    · have h11 := un2 h2
      replace H := iff_ h11 H
      refine seq_skip rfl rfl h2 ?_
      refine seq_skip rfl rfl h2 ?_
      refine seq_run0 (stp_pick_f rfl (bFF h11) rfl) ?_
      refine seq_run0 (stp_move (.dat _) rfl) ?_
      refine seq_skip rfl rfl rfl ?_
      refine seq_skip rfl rfl rfl ?_
      refine seq_skip rfl rfl rfl ?_
      refine seq_run0 (stp_pick_f rfl rfl rfl) ?_
      refine seq_run0 (stp_assign (.dat _) rfl) ?_
      exact ⟨false, H, ⟨rfl, trivial⟩, trivial⟩
  · rintro v12 H
    replace H : gateref2_queryForm_J1 v12 = some r := H
    unfold gateref2_queryForm_J1 at H
    refine awp_ret ?_
    cases H
    exact ⟨trivial, .inl rfl, trivial⟩
theorem k_gateref2_Field (s1 : Bs) (r : (Bool)) (H : m_gateref2_Field s1 = some r) : Fn Tryz.prog 38 [vstr s1] (resOf [vbool r]) := by
  refine ⟨by kernel_rfl, pure_of (us := [vbool r]) Tryz.func38 rfl rfl rfl rfl fun X hN => ?_⟩
  unfold m_gateref2_Field at H
  refine awp_seq ?_
  refine awp_plain hN rfl ?_
  refine seq_run0 (stp_assign (.dat _) rfl) ?_
  refine awp_joinE (ι := Bool) (fun i => [(2, .dat (vbool i))]) (fun i => []) (fun i => gateref2_Field_J1 i = some r) (fun i => rfl) ?_ ?_
  · skip
    refine awp_plain hN rfl ?_
    refine seq_run0 (stp_move (.dat _) rfl) ?_
    refine seq_run0 (stp_len_str tyU9 rfl) ?_
    refine seq_run0 (stp_leq rfl rfl) ?_
    refine seq_run0 (stp_move (.dat _) rfl) ?_
    refine seq_split (j := 3) rfl rfl (fun h2 => ?_) (fun h2 => ?_) rfl
    · have h3 := un1 h2
      replace H := ift h3 H
      refine seq_g0 rfl rfl h2 (stp_move (.dat _) rfl) ?_
      obtain ⟨r4, h5, H⟩ := bnd H
      refine seq_g0 rfl rfl h2 (stp_call (k_gateref2_visible s1 32 r4 h5) ⟨.inl rfl, .inl rfl, trivial⟩) ?_
      refine seq_run0 (stp_pick_t rfl (bTT h3) rfl) ?_
      refine seq_run0 (stp_move (.dat _) rfl) ?_
      refine seq_split (j := 7) rfl rfl (fun h6 => ?_) (fun h6 => ?_) rfl
      · have h7 := un1 h6
        replace H := ift h7 H
        refine seq_g0 rfl rfl h6 (stp_move (.dat _) rfl) ?_
        obtain ⟨r8, h9, H⟩ := bnd H
        refine seq_g0 rfl rfl h6 (stp_call (k_strings_Trim s1 [32] r8 h9) ⟨.inl rfl, .inl rfl, trivial⟩) ?_
        refine seq_g0 rfl rfl h6 (stp_move (.dat _) rfl) ?_
        refine seq_g0 rfl rfl h6 (stp_seql rfl rfl) ?_
        refine seq_run0 (stp_pick_t rfl (bTT h7) rfl) ?_
        refine seq_run0 (stp_assign (.dat _) rfl) ?_
        exact ⟨decide (r8 = s1), H, ⟨rfl, trivial⟩, trivial⟩
      · have h10 := un2 h6
        replace H := iff_ h10 H
        refine seq_skip rfl rfl h6 ?_
        refine seq_skip rfl rfl h6 ?_
        refine seq_skip rfl rfl h6 ?_
        refine seq_skip rfl rfl h6 ?_
        refine seq_run0 (stp_pick_f rfl (bFF h10) rfl) ?_
        refine seq_run0 (stp_assign (.dat _) rfl) ?_
        exact ⟨false, H, ⟨rfl, trivial⟩, trivial⟩
    · have h11 := un2 h2
      replace H := iff_ h11 H
      refine seq_skip rfl rfl h2 ?_
      refine seq_skip rfl rfl h2 ?_
      refine seq_run0 (stp_pick_f rfl (bFF h11) rfl) ?_
      refine seq_run0 (stp_move (.dat _) rfl) ?_
      refine seq_skip rfl rfl rfl ?_
      refine seq_skip rfl rfl rfl ?_
      refine seq_skip rfl rfl rfl ?_
      refine seq_skip rfl rfl rfl ?_
      refine seq_run0 (stp_pick_f rfl rfl rfl) ?_
      refine seq_run0 (stp_assign (.dat _) rfl) ?_
      exact ⟨false, H, ⟨rfl, trivial⟩, trivial⟩
  · rintro v12 H
    replace H : gateref2_Field_J1 v12 = some r := H
    unfold gateref2_Field_J1 at H
    refine awp_ret ?_
    cases H
    exact ⟨trivial, .inl rfl, trivial⟩
theorem k_gateref2_HeadersFault (l1 : (List S_api_Header)) (r : (Int)) (H : m_gateref2_HeadersFault l1 = some r) : Fn Tryz.prog 39 [vlst (List.map C_api_Header l1)] (resOf [vint r]) := by
  refine ⟨by kernel_rfl, pure_of (us := [vint r]) Tryz.func39 rfl rfl rfl rfl fun X hN => ?_⟩
  unfold m_gateref2_HeadersFault at H
  refine awp_seq ?_
  refine awp_plain hN rfl ?_
  refine seq_run0 (stp_assign (.dat _) rfl) ?_
  refine awp_seq ?_
  refine awp_seq ?_
  refine awp_plain hN rfl ?_
  refine seq_run0 (stp_move (.dat _) rfl) ?_
  refine seq_run0 (t_len tyU26 rfl) ?_
  refine seq_run0 (stp_gtr rfl rfl) ?_
  refine awp_cond _ rfl (fun h2 => ?_) (fun h2 => ?_)
  · replace H := ift h2 H
    refine awp_seq ?_
    refine awp_plain hN rfl ?_
    refine seq_run0 (stp_assign (.dat _) rfl) ?_
    refine awp_ret ?_
    cases H
    exact ⟨trivial, .inl rfl, trivial⟩
  · replace H := iff_ h2 H
    refine awp_skip ?_
    refine awp_seq ?_
    refine awp_seq ?_
    refine awp_plain hN rfl ?_
    refine seq_run0 (stp_move (.dat _) rfl) ?_
    refine seq_run0 (t_len tyU26 rfl) ?_
    refine seq_run0 (stp_move (.dat _) rfl) ?_
    refine awp_block ?_
    obtain ⟨h5, H⟩ := gif H
    refine awp_forL (fun (k3 : Nat) (s : Unit) => [(8, .dat (vlst (List.map C_api_Header l1))), (9, .dat (vint (l1.length : Int))), (10, .dat (vint (k3 : Int)))]) (fun (k3 : Nat) (s : Unit) => []) () H ⟨rfl, rfl, rfl, trivial⟩ trivial (fun _ _ => rfl) ?_ ?_
    · rintro ⟨⟩ H
      replace H : gateref2_HeadersFault_E1 = some r := H
      unfold gateref2_HeadersFault_E1 at H
      refine awp_seq ?_
      refine awp_plain hN rfl ?_
      refine seq_run0 (stp_lss rfl rfl) ?_
      refine awp_seq ?_
      refine awp_cond _ rfl (fun h => (lt_t h).elim) (fun h => ?_)
      refine awp_exit ?_
      refine awp_seq ?_
      refine awp_plain hN rfl ?_
      refine seq_run0 (stp_assign (.dat _) rfl) ?_
      refine awp_ret ?_
      cases H
      exact ⟨trivial, .inl rfl, trivial⟩
    · rintro k3 x6 ⟨⟩ q4 h7 h8 H hq4
      replace H : gateref2_HeadersFault_L1 k3 x6 = some q4 := H
      unfold gateref2_HeadersFault_L1 at H
      refine awp_seq ?_
      refine awp_plain hN rfl ?_
      refine seq_run0 (stp_lss rfl rfl) ?_
      refine awp_seq ?_
      refine awp_cond _ rfl (fun h => ?_) (fun h => (lt_f h7 h).elim)
      refine awp_skip ?_
      refine awp_seq ?_
      refine awp_block ?_
      refine awp_seq ?_
      refine awp_plain hN rfl ?_
      refine seq_run0 (t_idx tyE26 (fun _ => rfl) rfl rfl h8) ?_
      refine seq_run0 (stp_loadEA tyS70 rfl (map_at h8) rfl) ?_
      refine seq_run2 (stp_alloc 1 tyZ70 rfl) rfl ?_
      refine seq_run2 (stp_storeW tyS70 rfl rfl rfl rfl) rfl ?_
      refine awp_seq ?_
      refine awp_seq ?_
      refine awp_plain hN rfl ?_
      refine seq_run0 (stp_fldP tyF70_0 rfl) ?_
      refine seq_run1 (stp_load1 tyS9 rfl rfl) rfl ?_
      obtain ⟨r9, h10, H⟩ := bnd H
      refine seq_run0 (stp_call (k_gateref2_Token x6.Name r9 h10) ⟨.inl rfl, trivial⟩) ?_
      refine seq_run0 (stp_not rfl) ?_
      refine awp_cond _ rfl (fun h11 => ?_) (fun h11 => ?_)
      · replace H := ift h11 H
        refine awp_seq ?_
        refine awp_plain hN rfl ?_
        refine seq_run0 (stp_assign (.dat _) rfl) ?_
        refine awp_ret ?_
        replace H := retl H hq4
        cases H
        exact ⟨trivial, .inl rfl, trivial⟩
      · replace H := iff_ h11 H
        refine awp_skip ?_
        refine awp_seq ?_
        refine awp_plain hN rfl ?_
        refine seq_run0 (stp_fldP tyF70_1 rfl) ?_
        refine seq_run1 (stp_load1 tyS9 rfl rfl) rfl ?_
        obtain ⟨r12, h13, H⟩ := bnd H
        refine seq_run0 (stp_call (k_gateref2_Field x6.Value r12 h13) ⟨.inl rfl, trivial⟩) ?_
        refine seq_run0 (stp_not rfl) ?_
        refine awp_cond _ rfl (fun h14 => ?_) (fun h14 => ?_)
        · replace H := ift h14 H
          refine awp_seq ?_
          refine awp_plain hN rfl ?_
          refine seq_run0 (stp_assign (.dat _) rfl) ?_
          refine awp_ret ?_
          replace H := retl H hq4
          cases H
          exact ⟨trivial, .inl rfl, trivial⟩
        · replace H := iff_ h14 H
          refine awp_skip ?_
          refine awp_plain hN rfl ?_
          refine seq_run0 (stp_add rfl rfl (by omega)) ?_
          refine seq_run0 (stp_move (.dat _) rfl) ?_
          exact ⟨_, backl H, ⟨rfl, rfl, rfl, trivial⟩, trivial⟩
theorem k_gateref2_RequestFault (r1 : S_api_Request) (r : (Int)) (H : m_gateref2_RequestFault r1 = some r) : Fn Tryz.prog 8 [vagg (C_api_Request r1)] (resOf [vint r]) := by
  refine ⟨by kernel_rfl, pure_of (us := [vint r]) Tryz.func8 rfl rfl rfl rfl fun X hN => ?_⟩
  unfold m_gateref2_RequestFault at H
  refine awp_seq ?_
  refine awp_plain hN rfl ?_
  refine seq_run2 (stp_boxA 1 rfl) rfl ?_
  refine seq_run0 (stp_assign (.dat _) rfl) ?_
  refine awp_seq ?_
  refine awp_block ?_
  refine awp_seq ?_
  refine awp_plain hN rfl ?_
  refine seq_run0 (stp_fldP tyF28_0 rfl) ?_
  refine seq_run1 (stp_load1 tyS3 rfl rfl) rfl ?_
  obtain ⟨r2, h3, H⟩ := bnd H
  refine seq_run0 (stp_call (k_gateref2_Moment r1.At r2 h3) ⟨.inl rfl, trivial⟩) ?_
  refine seq_run0 (stp_not rfl) ?_
  refine seq_run0 (stp_assign (.dat _) rfl) ?_
  refine awp_cond _ rfl (fun h4 => ?_) (fun h4 => ?_)
  · replace H := ift h4 H
    refine awp_seq ?_
    refine awp_plain hN rfl ?_
    refine seq_run0 (stp_assign (.dat _) rfl) ?_
    refine awp_ret ?_
    cases H
    exact ⟨trivial, .inl rfl, trivial⟩
  · replace H := iff_ h4 H
    refine awp_seq ?_
    refine awp_plain hN rfl ?_
    refine seq_run0 (stp_fldP tyF28_1 rfl) ?_
    refine seq_run1 (stp_load1 tyS9 rfl rfl) rfl ?_
    obtain ⟨r5, h6, H⟩ := bnd H
    refine seq_run0 (stp_call (k_gateref2_Token r1.Method r5 h6) ⟨.inl rfl, trivial⟩) ?_
    refine seq_run0 (stp_not rfl) ?_
    refine seq_run0 (stp_assign (.dat _) rfl) ?_
    refine awp_cond _ rfl (fun h7 => ?_) (fun h7 => ?_)
    · replace H := ift h7 H
      refine awp_seq ?_
      refine awp_plain hN rfl ?_
      refine seq_run0 (stp_assign (.dat _) rfl) ?_
      refine awp_ret ?_
      cases H
      exact ⟨trivial, .inl rfl, trivial⟩
    · replace H := iff_ h7 H
      refine awp_skip ?_
      refine awp_seq ?_
      refine awp_seq ?_
      refine awp_plain hN rfl ?_
      refine seq_run0 (stp_fldP tyF28_2 rfl) ?_
      refine seq_run1 (stp_load1 tyS9 rfl rfl) rfl ?_
      obtain ⟨r8, h9, H⟩ := bnd H
      refine seq_run0 (stp_call (k_gateref2_HostOf r1.Host r8 h9) ⟨.inl rfl, trivial⟩) ?_
      refine seq_run0 (stp_move (.dat _) rfl) ?_
      refine seq_run0 (stp_ext rfl rfl) ?_
      refine seq_run0 (stp_ext rfl rfl) ?_
      refine seq_run0 (stp_assign (.dat _) rfl) ?_
      refine seq_run0 (stp_assign (.dat _) rfl) ?_
      refine awp_seq ?_
      refine awp_plain hN rfl ?_
      refine seq_run0 (stp_move (.dat _) rfl) ?_
      refine seq_run0 (stp_neq rfl rfl) ?_
      refine awp_cond _ rfl (fun h10 => ?_) (fun h10 => ?_)
      · replace H := ift h10 H
        refine awp_seq ?_
        refine awp_plain hN rfl ?_
        refine seq_run0 (stp_move (.dat _) rfl) ?_
        refine seq_run0 (stp_assign (.dat _) rfl) ?_
        refine awp_ret ?_
        cases H
        exact ⟨trivial, .inl rfl, trivial⟩
      · replace H := iff_ h10 H
        refine awp_skip ?_
        refine awp_seq ?_
        refine awp_joinE (ι := Bool) (fun i => [(1, .ptr 1 0), (40, .dat (vbool i))]) (fun i => [(1, .box none 28 [.dat (vint r1.At), .dat (vstr r1.Method), .dat (vstr r1.Host), .dat (vstr r1.Path), .dat (vstr r1.Query), .dat (vstr r1.From), .dat (vlst (List.map C_api_Header r1.Headers)), .dat (vstr r1.Body)])]) (fun i => gateref2_RequestFault_J1 r1 i = some r) (fun i => rfl) ?_ ?_
        · skip
          refine awp_plain hN rfl ?_
          refine seq_run0 (stp_fldP tyF28_3 rfl) ?_
          refine seq_run1 (stp_load1 tyS9 rfl rfl) rfl ?_
          obtain ⟨r11, h12, H⟩ := bnd H
          refine seq_run0 (stp_call (k_gateref2_pathForm r1.Path r11 h12) ⟨.inl rfl, trivial⟩) ?_
          refine seq_run0 (stp_not rfl) ?_
          refine seq_run0 (stp_move (.dat _) rfl) ?_
          refine seq_split (j := 4) rfl rfl (fun h13 => ?_) (fun h13 => ?_) rfl
          · have h14 := un3 h13
            replace H := iff_ h14 H
            refine seq_g0 rfl rfl h13 (stp_fldP tyF28_4 rfl) ?_
            refine seq_g1 rfl rfl h13 (stp_load1 tyS9 rfl rfl) rfl ?_
            obtain ⟨r15, h16, H⟩ := bnd H
            refine seq_g0 rfl rfl h13 (stp_call (k_gateref2_queryForm r1.Query r15 h16) ⟨.inl rfl, trivial⟩) ?_
            refine seq_g0 rfl rfl h13 (stp_not rfl) ?_
            refine seq_run0 (stp_pick_f rfl (bFF h14) rfl) ?_
            refine seq_run0 (stp_move (.dat _) rfl) ?_
            refine seq_split (j := 10) rfl rfl (fun h17 => ?_) (fun h17 => ?_) rfl
            · have h18 := un3 h17
              replace H := iff_ h18 H
              refine seq_g0 rfl rfl h17 (stp_fldP tyF28_5 rfl) ?_
              refine seq_g1 rfl rfl h17 (stp_load1 tyS9 rfl rfl) rfl ?_
              obtain ⟨r19, h20, H⟩ := bnd H
              refine seq_g0 rfl rfl h17 (stp_call (k_gateref2_Field r1.From r19 h20) ⟨.inl rfl, trivial⟩) ?_
              refine seq_g0 rfl rfl h17 (stp_not rfl) ?_
              refine seq_run0 (stp_pick_f rfl (bFF h18) rfl) ?_
              exact ⟨!r19, H, ⟨rfl, rfl, trivial⟩, ⟨rfl, trivial⟩⟩
            · have h21 := un4 h17
              replace H := ift h21 H
              refine seq_skip rfl rfl h17 ?_
              refine seq_skip rfl rfl h17 ?_
              refine seq_skip rfl rfl h17 ?_
              refine seq_skip rfl rfl h17 ?_
              refine seq_run0 (stp_pick_t rfl (bTT h21) rfl) ?_
              exact ⟨true, H, ⟨rfl, rfl, trivial⟩, ⟨rfl, trivial⟩⟩
          · have h22 := un4 h13
            replace H := ift h22 H
            refine seq_skip rfl rfl h13 ?_
            refine seq_skip rfl rfl h13 ?_
            refine seq_skip rfl rfl h13 ?_
            refine seq_skip rfl rfl h13 ?_
            refine seq_run0 (stp_pick_t rfl (bTT h22) rfl) ?_
            refine seq_run0 (stp_move (.dat _) rfl) ?_
            refine seq_skip rfl rfl rfl ?_
            refine seq_skip rfl rfl rfl ?_
            refine seq_skip rfl rfl rfl ?_
            refine seq_skip rfl rfl rfl ?_
            refine seq_run0 (stp_pick_t rfl rfl rfl) ?_
            exact ⟨true, H, ⟨rfl, rfl, trivial⟩, ⟨rfl, trivial⟩⟩
        · rintro v23 H
          replace H : gateref2_RequestFault_J1 r1 v23 = some r := H
          unfold gateref2_RequestFault_J1 at H
          refine awp_cond _ rfl (fun h24 => ?_) (fun h24 => ?_)
          · replace H := ift h24 H
            refine awp_seq ?_
            refine awp_plain hN rfl ?_
            refine seq_run0 (stp_assign (.dat _) rfl) ?_
            refine awp_ret ?_
            cases H
            exact ⟨trivial, .inl rfl, trivial⟩
          · replace H := iff_ h24 H
            refine awp_skip ?_
            refine awp_seq ?_
            refine awp_seq ?_
            refine awp_plain hN rfl ?_
            refine seq_run0 (stp_fldP tyF28_6 rfl) ?_
            refine seq_run1 (stp_load1 tyS26 rfl rfl) rfl ?_
            obtain ⟨r25, h26, H⟩ := bnd H
            refine seq_run0 (stp_call (k_gateref2_HeadersFault r1.Headers r25 h26) ⟨.inl rfl, trivial⟩) ?_
            refine seq_run0 (stp_assign (.dat _) rfl) ?_
            refine awp_seq ?_
            refine awp_plain hN rfl ?_
            refine seq_run0 (stp_move (.dat _) rfl) ?_
            refine seq_run0 (stp_neq rfl rfl) ?_
            refine awp_cond _ rfl (fun h27 => ?_) (fun h27 => ?_)
            · replace H := ift h27 H
              refine awp_seq ?_
              refine awp_plain hN rfl ?_
              refine seq_run0 (stp_move (.dat _) rfl) ?_
              refine seq_run0 (stp_assign (.dat _) rfl) ?_
              refine awp_ret ?_
              cases H
              exact ⟨trivial, .inl rfl, trivial⟩
            · replace H := iff_ h27 H
              refine awp_skip ?_
              refine awp_seq ?_
              refine awp_seq ?_
              refine awp_plain hN rfl ?_
              refine seq_run0 (stp_fldP tyF28_7 rfl) ?_
              refine seq_run1 (stp_load1 tyS9 rfl rfl) rfl ?_
              refine seq_run0 (stp_len_str tyU9 rfl) ?_
              refine seq_run0 (stp_gtr rfl rfl) ?_
              refine awp_cond _ rfl (fun h28 => ?_) (fun h28 => ?_)
              · replace H := ift h28 H
                refine awp_seq ?_
                refine awp_plain hN rfl ?_
                refine seq_run0 (stp_assign (.dat _) rfl) ?_
                refine awp_ret ?_
                cases H
                exact ⟨trivial, .inl rfl, trivial⟩
              · replace H := iff_ h28 H
                refine awp_skip ?_
                refine awp_seq ?_
                refine awp_plain hN rfl ?_
                refine seq_run0 (stp_assign (.dat _) rfl) ?_
                refine awp_ret ?_
                cases H
                exact ⟨trivial, .inl rfl, trivial⟩
theorem k_gateref2_alike (a1 : Bs) (b2 : Bs) (r : (Bool)) (H : m_gateref2_alike a1 b2 = some r) : Fn Tryz.prog 110 [vstr a1, vstr b2] (resOf [vbool r]) := by
  refine ⟨by kernel_rfl, pure_of (us := [vbool r]) Tryz.func110 rfl rfl rfl rfl fun X hN => ?_⟩
  unfold m_gateref2_alike at H
  refine awp_seq ?_
  refine awp_plain hN rfl ?_
  refine seq_run0 (stp_assign (.dat _) rfl) ?_
  refine awp_seq ?_
  refine awp_plain hN rfl ?_
  refine seq_run0 (stp_move (.dat _) rfl) ?_
  obtain ⟨r3, h4, H⟩ := bnd H
  refine seq_run0 (stp_call (k_strings_ToLower a1 r3 h4) ⟨.inl rfl, trivial⟩) ?_
  refine seq_run0 (stp_move (.dat _) rfl) ?_
  obtain ⟨r5, h6, H⟩ := bnd H
  refine seq_run0 (stp_call (k_strings_ToLower b2 r5 h6) ⟨.inl rfl, trivial⟩) ?_
  refine seq_run0 (stp_seql rfl rfl) ?_
  refine seq_run0 (stp_assign (.dat _) rfl) ?_
  refine awp_ret ?_
  cases H
  exact ⟨trivial, .inl rfl, trivial⟩
theorem k_gateref2_own (name1 : Bs) (request2 : Bool) (r : (Bool)) (H : m_gateref2_own name1 request2 = some r) : Fn Tryz.prog 78 [vstr name1, vbool request2] (resOf [vbool r]) := by
  refine ⟨by kernel_rfl, pure_of (us := [vbool r]) Tryz.func78 rfl rfl rfl rfl fun X hN => ?_⟩
  unfold m_gateref2_own at H
  refine awp_seq ?_
  refine awp_plain hN rfl ?_
  refine seq_run0 (stp_assign (.dat _) rfl) ?_
  refine awp_joinE (ι := Bool) (fun i => [(4, .dat (vbool i))]) (fun i => []) (fun i => gateref2_own_J1 i = some r) (fun i => rfl) ?_ ?_
  · skip
    refine awp_plain hN rfl ?_
    refine seq_run0 (stp_move (.dat _) rfl) ?_
    refine seq_run0 (stp_move (.dat _) rfl) ?_
    refine seq_split (j := 1) rfl rfl (fun h3 => ?_) (fun h3 => ?_) rfl
    · have h4 := un1 h3
      replace H := ift h4 H
      refine seq_g0 rfl rfl h3 (stp_move (.dat _) rfl) ?_
      obtain ⟨r5, h6, H⟩ := bnd H
      refine seq_g0 rfl rfl h3 (stp_call (k_gateref2_alike name1 [104, 111, 115, 116] r5 h6) ⟨.inl rfl, .inl rfl, trivial⟩) ?_
      refine seq_run0 (stp_pick_t rfl (bTT h4) rfl) ?_
      refine seq_run0 (stp_move (.dat _) rfl) ?_
      refine seq_split (j := 5) rfl rfl (fun h7 => ?_) (fun h7 => ?_) rfl
      · have h8 := un3 h7
        replace H := iff_ h8 H
        refine seq_g0 rfl rfl h7 (stp_move (.dat _) rfl) ?_
        obtain ⟨r9, h10, H⟩ := bnd H
        refine seq_g0 rfl rfl h7 (stp_call (k_gateref2_alike name1 [99, 111, 110, 116, 101, 110, 116, 45, 108, 101, 110, 103, 116, 104] r9 h10) ⟨.inl rfl, .inl rfl, trivial⟩) ?_
        refine seq_run0 (stp_pick_f rfl (bFF h8) rfl) ?_
        refine seq_run0 (stp_move (.dat _) rfl) ?_
        refine seq_split (j := 9) rfl rfl (fun h11 => ?_) (fun h11 => ?_) rfl
        · have h12 := un3 h11
          replace H := iff_ h12 H
          refine seq_g0 rfl rfl h11 (stp_move (.dat _) rfl) ?_
          obtain ⟨r13, h14, H⟩ := bnd H
          refine seq_g0 rfl rfl h11 (stp_call (k_gateref2_alike name1 [116, 114, 97, 110, 115, 102, 101, 114, 45, 101, 110, 99, 111, 100, 105, 110, 103] r13 h14) ⟨.inl rfl, .inl rfl, trivial⟩) ?_
          refine seq_run0 (stp_pick_f rfl (bFF h12) rfl) ?_
          refine seq_run0 (stp_assign (.dat _) rfl) ?_
          exact ⟨r13, H, ⟨rfl, trivial⟩, trivial⟩
        · have h15 := un4 h11
          replace H := ift h15 H
          refine seq_skip rfl rfl h11 ?_
          refine seq_skip rfl rfl h11 ?_
          refine seq_run0 (stp_pick_t rfl (bTT h15) rfl) ?_
          refine seq_run0 (stp_assign (.dat _) rfl) ?_
          exact ⟨true, H, ⟨rfl, trivial⟩, trivial⟩
      · have h16 := un4 h7
        replace H := ift h16 H
        refine seq_skip rfl rfl h7 ?_
        refine seq_skip rfl rfl h7 ?_
        refine seq_run0 (stp_pick_t rfl (bTT h16) rfl) ?_
        refine seq_run0 (stp_move (.dat _) rfl) ?_
        refine seq_skip rfl rfl rfl ?_
        refine seq_skip rfl rfl rfl ?_
        refine seq_run0 (stp_pick_t rfl rfl rfl) ?_
        refine seq_run0 (stp_assign (.dat _) rfl) ?_
        exact ⟨true, H, ⟨rfl, trivial⟩, trivial⟩
    · have h17 := un2 h3
      replace H := iff_ h17 H
      refine seq_skip rfl rfl h3 ?_
      refine seq_skip rfl rfl h3 ?_
      refine seq_run0 (stp_pick_f rfl (bFF h17) rfl) ?_
      refine seq_run0 (stp_move (.dat _) rfl) ?_
      refine seq_g0 rfl rfl rfl (stp_move (.dat _) rfl) ?_
      obtain ⟨r18, h19, H⟩ := bnd H
      refine seq_g0 rfl rfl rfl (stp_call (k_gateref2_alike name1 [99, 111, 110, 116, 101, 110, 116, 45, 108, 101, 110, 103, 116, 104] r18 h19) ⟨.inl rfl, .inl rfl, trivial⟩) ?_
      refine seq_run0 (stp_pick_f rfl rfl rfl) ?_
      refine seq_run0 (stp_move (.dat _) rfl) ?_
      refine seq_split (j := 9) rfl rfl (fun h20 => ?_) (fun h20 => ?_) rfl
      · have h21 := un3 h20
        replace H := iff_ h21 H
        refine seq_g0 rfl rfl h20 (stp_move (.dat _) rfl) ?_
        obtain ⟨r22, h23, H⟩ := bnd H
        refine seq_g0 rfl rfl h20 (stp_call (k_gateref2_alike name1 [116, 114, 97, 110, 115, 102, 101, 114, 45, 101, 110, 99, 111, 100, 105, 110, 103] r22 h23) ⟨.inl rfl, .inl rfl, trivial⟩) ?_
        refine seq_run0 (stp_pick_f rfl (bFF h21) rfl) ?_
        refine seq_run0 (stp_assign (.dat _) rfl) ?_
        exact ⟨r22, H, ⟨rfl, trivial⟩, trivial⟩
      · have h24 := un4 h20
        replace H := ift h24 H
        refine seq_skip rfl rfl h20 ?_
        refine seq_skip rfl rfl h20 ?_
        refine seq_run0 (stp_pick_t rfl (bTT h24) rfl) ?_
        refine seq_run0 (stp_assign (.dat _) rfl) ?_
        exact ⟨true, H, ⟨rfl, trivial⟩, trivial⟩
  · rintro v25 H
    replace H : gateref2_own_J1 v25 = some r := H
    unfold gateref2_own_J1 at H
    refine awp_ret ?_
    cases H
    exact ⟨trivial, .inl rfl, trivial⟩
theorem k_gateref2_tail (l1 : (List S_api_Header)) (body2 : Bs) (request3 : Bool) (r : (Bs)) (H : m_gateref2_tail l1 body2 request3 = some r) : Fn Tryz.prog 40 [vlst (List.map C_api_Header l1), vstr body2, vbool request3] (resOf [vstr r]) := by
  refine ⟨by kernel_rfl, pure_of (us := [vstr r]) Tryz.func40 rfl rfl rfl rfl fun X hN => ?_⟩
  unfold m_gateref2_tail at H
  refine awp_seq ?_
  refine awp_plain hN rfl ?_
  refine seq_run0 (stp_assign (.dat _) rfl) ?_
  refine awp_seq ?_
  refine awp_plain hN rfl ?_
  refine seq_run0 (stp_assign (.dat _) rfl) ?_
  refine awp_seq ?_
  refine awp_seq ?_
  refine awp_plain hN rfl ?_
  refine seq_run0 (stp_move (.dat _) rfl) ?_
  refine seq_run0 (t_len tyU26 rfl) ?_
  refine seq_run0 (stp_move (.dat _) rfl) ?_
  refine awp_block ?_
  obtain ⟨h7, H⟩ := gif H
  refine awp_forL (fun (k5 : Nat) (s : Bs) => [(1, .dat (vstr body2)), (2, .dat (vbool request3)), (7, .dat (vstr s)), (10, .dat (vlst (List.map C_api_Header l1))), (11, .dat (vint (l1.length : Int))), (12, .dat (vint (k5 : Int)))]) (fun (k5 : Nat) (s : Bs) => []) [] H ⟨rfl, rfl, rfl, rfl, rfl, rfl, trivial⟩ trivial (fun _ _ => rfl) ?_ ?_
  · rintro out4 H
    replace H : gateref2_tail_E1 body2 request3 out4 = some r := H
    unfold gateref2_tail_E1 at H
    refine awp_seq ?_
    refine awp_plain hN rfl ?_
    refine seq_run0 (stp_lss rfl rfl) ?_
    refine awp_seq ?_
    refine awp_cond _ rfl (fun h => (lt_t h).elim) (fun h => ?_)
    refine awp_exit ?_
    refine awp_joinE (ι := Bs) (fun i => [(1, .dat (vstr body2)), (7, .dat (vstr i))]) (fun i => []) (fun i => gateref2_tail_J2 body2 i = some r) (fun i => rfl) ?_ ?_
    · skip
      refine awp_seq ?_
      refine awp_plain hN rfl ?_
      refine seq_run0 (stp_move (.dat _) rfl) ?_
      refine seq_run0 (stp_sneq rfl rfl) ?_
      refine seq_run0 (stp_move (.dat _) rfl) ?_
      refine seq_aF rfl rfl (fun hc => stp_move (.dat _) rfl) ?_
      refine seq_aF rfl rfl (fun hc => stp_not (cnd (c := (!(decide (body2 ≠ [])))) hc)) ?_
      refine seq_run0 (stp_pick_or rfl rfl (fun hb => (cnd (c := (!(decide (body2 ≠ [])))) (notI hb)))) ?_
      refine awp_cond _ rfl (fun h9 => ?_) (fun h9 => ?_)
      · replace H := ift h9 H
        refine awp_plain hN rfl ?_
        refine seq_run0 (stp_move (.dat _) rfl) ?_
        refine seq_run0 (stp_move (.dat _) rfl) ?_
        refine seq_run0 (stp_len_str tyU9 rfl) ?_
        obtain ⟨r10, h11, H⟩ := bnd H
        refine seq_run0 (stp_call (k_strconv_Itoa (body2.length : Int) r10 h11) ⟨.inl rfl, trivial⟩) ?_
        obtain ⟨h12, H⟩ := gif H
        refine seq_run0 (stp_sadd rfl rfl (Nat.le_trans h12 (by decide))) ?_
        obtain ⟨h13, H⟩ := gif H
        refine seq_run0 (stp_sadd rfl rfl (Nat.le_trans h13 (by decide))) ?_
        obtain ⟨h14, H⟩ := gif H
        refine seq_run0 (stp_sadd rfl rfl (Nat.le_trans h14 (by decide))) ?_
        refine seq_run0 (stp_assign (.dat _) rfl) ?_
        exact ⟨(out4 ++ (([99, 111, 110, 116, 101, 110, 116, 45, 108, 101, 110, 103, 116, 104, 58, 32] ++ r10) ++ [13, 10])), H, ⟨rfl, rfl, trivial⟩, trivial⟩
      · replace H := iff_ h9 H
        refine awp_skip ?_
        exact ⟨out4, H, ⟨rfl, rfl, trivial⟩, trivial⟩
    · rintro out15 H
      replace H : gateref2_tail_J2 body2 out15 = some r := H
      unfold gateref2_tail_J2 at H
      refine awp_seq ?_
      refine awp_plain hN rfl ?_
      refine seq_run0 (stp_move (.dat _) rfl) ?_
      obtain ⟨h16, H⟩ := gif H
      refine seq_run0 (stp_sadd rfl rfl (Nat.le_trans h16 (by decide))) ?_
      refine seq_run0 (stp_move (.dat _) rfl) ?_
      obtain ⟨h17, H⟩ := gif H
      refine seq_run0 (stp_sadd rfl rfl (Nat.le_trans h17 (by decide))) ?_
      refine seq_run0 (stp_assign (.dat _) rfl) ?_
      refine awp_ret ?_
      cases H
      exact ⟨trivial, .inl rfl, trivial⟩
  · rintro k5 x8 out4 q6 h18 h19 H hq6
    replace H : gateref2_tail_L1 request3 k5 x8 out4 = some q6 := H
    unfold gateref2_tail_L1 at H
    refine awp_seq ?_
    refine awp_plain hN rfl ?_
    refine seq_run0 (stp_lss rfl rfl) ?_
    refine awp_seq ?_
    refine awp_cond _ rfl (fun h => ?_) (fun h => (lt_f h18 h).elim)
    refine awp_skip ?_
    refine awp_joinE (ι := Bs) (fun i => [(1, .dat (vstr body2)), (2, .dat (vbool request3)), (7, .dat (vstr i)), (10, .dat (vlst (List.map C_api_Header l1))), (11, .dat (vint (l1.length : Int))), (12, .dat (vint (k5 : Int)))]) (fun i => []) (fun i => gateref2_tail_J3 i = some q6) (fun i => rfl) ?_ ?_
    · skip
      refine awp_block ?_
      refine awp_seq ?_
      refine awp_plain hN rfl ?_
      refine seq_run0 (t_idx tyE26 (fun _ => rfl) rfl rfl h19) ?_
      refine seq_run0 (stp_loadEA tyS70 rfl (map_at h19) rfl) ?_
      refine seq_run2 (stp_alloc 1 tyZ70 rfl) rfl ?_
      refine seq_run2 (stp_storeW tyS70 rfl rfl rfl rfl) rfl ?_
      refine awp_seq ?_
      refine awp_plain hN rfl ?_
      refine seq_run0 (stp_fldP tyF70_0 rfl) ?_
      refine seq_run1 (stp_load1 tyS9 rfl rfl) rfl ?_
      refine seq_run0 (stp_move (.dat _) rfl) ?_
      obtain ⟨r20, h21, H⟩ := bnd H
      refine seq_run0 (stp_call (k_gateref2_own x8.Name request3 r20 h21) ⟨.inl rfl, .inl rfl, trivial⟩) ?_
      refine seq_run0 (stp_not rfl) ?_
      refine awp_cond _ rfl (fun h22 => ?_) (fun h22 => ?_)
      · replace H := ift h22 H
        refine awp_plain hN rfl ?_
        refine seq_run0 (stp_move (.dat _) rfl) ?_
        refine seq_run0 (stp_fldP tyF70_0 rfl) ?_
        refine seq_run1 (stp_load1 tyS9 rfl rfl) rfl ?_
        obtain ⟨h23, H⟩ := gif H
        refine seq_run0 (stp_sadd rfl rfl (Nat.le_trans h23 (by decide))) ?_
        refine seq_run0 (stp_fldP tyF70_1 rfl) ?_
        refine seq_run1 (stp_load1 tyS9 rfl rfl) rfl ?_
        obtain ⟨h24, H⟩ := gif H
        refine seq_run0 (stp_sadd rfl rfl (Nat.le_trans h24 (by decide))) ?_
        obtain ⟨h25, H⟩ := gif H
        refine seq_run0 (stp_sadd rfl rfl (Nat.le_trans h25 (by decide))) ?_
        obtain ⟨h26, H⟩ := gif H
        refine seq_run0 (stp_sadd rfl rfl (Nat.le_trans h26 (by decide))) ?_
        refine seq_run0 (stp_assign (.dat _) rfl) ?_
        exact ⟨(out4 ++ (((x8.Name ++ [58, 32]) ++ x8.Value) ++ [13, 10])), H, ⟨rfl, rfl, rfl, rfl, rfl, rfl, trivial⟩, trivial⟩
      · replace H := iff_ h22 H
        refine awp_skip ?_
        exact ⟨out4, H, ⟨rfl, rfl, rfl, rfl, rfl, rfl, trivial⟩, trivial⟩
    · rintro out27 H
      replace H : gateref2_tail_J3 out27 = some q6 := H
      unfold gateref2_tail_J3 at H
      refine awp_plain hN rfl ?_
      refine seq_run0 (stp_add rfl rfl (by omega)) ?_
      refine seq_run0 (stp_move (.dat _) rfl) ?_
      exact ⟨_, backl H, ⟨rfl, rfl, rfl, rfl, rfl, rfl, trivial⟩, trivial⟩
theorem k_gateref2_RequestBytes (r1 : S_api_Request) (r : (Bs)) (H : m_gateref2_RequestBytes r1 = some r) : Fn Tryz.prog 9 [vagg (C_api_Request r1)] (resOf [vstr r]) := by
  refine ⟨by kernel_rfl, pure_of (us := [vstr r]) Tryz.func9 rfl rfl rfl rfl fun X hN => ?_⟩
  unfold m_gateref2_RequestBytes at H
  refine awp_seq ?_
  refine awp_plain hN rfl ?_
  refine seq_run2 (stp_boxA 1 rfl) rfl ?_
  refine seq_run0 (stp_assign (.dat _) rfl) ?_
  refine awp_seq ?_
  refine awp_plain hN rfl ?_
  refine seq_run0 (stp_fldP tyF28_3 rfl) ?_
  refine seq_run1 (stp_load1 tyS9 rfl rfl) rfl ?_
  refine seq_run0 (stp_assign (.dat _) rfl) ?_
  refine awp_joinE (ι := Bs) (fun i => [(1, .ptr 1 0), (3, .dat (vstr i))]) (fun i => [(1, .box none 28 [.dat (vint r1.At), .dat (vstr r1.Method), .dat (vstr r1.Host), .dat (vstr r1.Path), .dat (vstr r1.Query), .dat (vstr r1.From), .dat (vlst (List.map C_api_Header r1.Headers)), .dat (vstr r1.Body)])]) (fun i => gateref2_RequestBytes_J1 r1 i = some r) (fun i => rfl) ?_ ?_
  · skip
    refine awp_seq ?_
    refine awp_plain hN rfl ?_
    refine seq_run0 (stp_fldP tyF28_4 rfl) ?_
    refine seq_run1 (stp_load1 tyS9 rfl rfl) rfl ?_
    refine seq_run0 (stp_sneq rfl rfl) ?_
    refine awp_cond _ rfl (fun h2 => ?_) (fun h2 => ?_)
    · replace H := ift h2 H
      refine awp_plain hN rfl ?_
      refine seq_run0 (stp_move (.dat _) rfl) ?_
      refine seq_run0 (stp_fldP tyF28_4 rfl) ?_
      refine seq_run1 (stp_load1 tyS9 rfl rfl) rfl ?_
      obtain ⟨h3, H⟩ := gif H
      refine seq_run0 (stp_sadd rfl rfl (Nat.le_trans h3 (by decide))) ?_
      obtain ⟨h4, H⟩ := gif H
      refine seq_run0 (stp_sadd rfl rfl (Nat.le_trans h4 (by decide))) ?_
      refine seq_run0 (stp_assign (.dat _) rfl) ?_
      exact ⟨(r1.Path ++ ([63] ++ r1.Query)), H, ⟨rfl, rfl, trivial⟩, ⟨rfl, trivial⟩⟩
    · replace H := iff_ h2 H
      refine awp_skip ?_
      exact ⟨r1.Path, H, ⟨rfl, rfl, trivial⟩, ⟨rfl, trivial⟩⟩
  · rintro target5 H
    replace H : gateref2_RequestBytes_J1 r1 target5 = some r := H
    unfold gateref2_RequestBytes_J1 at H
    refine awp_seq ?_
    refine awp_draw mixed hN rfl rfl ?_
    refine seq_run0 (stp_fldP tyF28_1 rfl) ?_
    refine seq_run1 (stp_load1 tyS9 rfl rfl) rfl ?_
    obtain ⟨h6, H⟩ := gif H
    refine seq_run0 (stp_sadd rfl rfl (Nat.le_trans h6 (by decide))) ?_
    refine seq_run0 (stp_move (.dat _) rfl) ?_
    obtain ⟨h7, H⟩ := gif H
    refine seq_run0 (stp_sadd rfl rfl (Nat.le_trans h7 (by decide))) ?_
    obtain ⟨h8, H⟩ := gif H
    refine seq_run0 (stp_sadd rfl rfl (Nat.le_trans h8 (by decide))) ?_
    obtain ⟨h9, H⟩ := gif H
    refine seq_run0 (stp_sadd rfl rfl (Nat.le_trans h9 (by decide))) ?_
    obtain ⟨h10, H⟩ := gif H
    refine seq_run0 (stp_sadd rfl rfl (Nat.le_trans h10 (by decide))) ?_
    refine seq_run0 (stp_fldP tyF28_2 rfl) ?_
    refine seq_run1 (stp_load1 tyS9 rfl rfl) rfl ?_
    obtain ⟨h11, H⟩ := gif H
    refine seq_run0 (stp_sadd rfl rfl (Nat.le_trans h11 (by decide))) ?_
    obtain ⟨h12, H⟩ := gif H
    refine seq_run0 (stp_sadd rfl rfl (Nat.le_trans h12 (by decide))) ?_
    refine seq_run0 (stp_fldP tyF28_6 rfl) ?_
    refine seq_run1 (stp_load1 tyS26 rfl rfl) rfl ?_
    refine seq_run0 (stp_fldP tyF28_7 rfl) ?_
    refine seq_run1 (stp_load1 tyS9 rfl rfl) rfl ?_
    obtain ⟨r13, h14, H⟩ := bnd H
    refine seq_run0 (stp_call (k_gateref2_tail r1.Headers r1.Body true r13 h14) ⟨.inl rfl, .inl rfl, .inl rfl, trivial⟩) ?_
    obtain ⟨h15, H⟩ := gif H
    refine seq_run0 (stp_sadd rfl rfl (Nat.le_trans h15 (by decide))) ?_
    refine seq_run0 (stp_assign (.dat _) rfl) ?_
    refine ⟨rfl, ?_⟩
    refine awp_ret ?_
    cases H
    exact ⟨trivial, .inl rfl, trivial⟩
theorem k_gateref2_ResponseFault (a1 : S_api_Response) (r : (Int)) (H : m_gateref2_ResponseFault a1 = some r) : Fn Tryz.prog 10 [vagg (C_api_Response a1)] (resOf [vint r]) := by
  refine ⟨by kernel_rfl, pure_of (us := [vint r]) Tryz.func10 rfl rfl rfl rfl fun X hN => ?_⟩
  unfold m_gateref2_ResponseFault at H
  refine awp_seq ?_
  refine awp_plain hN rfl ?_
  refine seq_run2 (stp_boxA 1 rfl) rfl ?_
  refine seq_run0 (stp_assign (.dat _) rfl) ?_
  refine awp_seq ?_
  refine awp_seq ?_
  refine awp_plain hN rfl ?_
  refine seq_run0 (stp_fldP tyF31_0 rfl) ?_
  refine seq_run1 (stp_load1 tyS3 rfl rfl) rfl ?_
  obtain ⟨r2, h3, H⟩ := bnd H
  refine seq_run0 (stp_call (k_gateref2_in a1.Status 100 599 r2 h3) ⟨.inl rfl, .inl rfl, .inl rfl, trivial⟩) ?_
  refine seq_run0 (stp_not rfl) ?_
  refine awp_cond _ rfl (fun h4 => ?_) (fun h4 => ?_)
  · replace H := ift h4 H
    refine awp_seq ?_
    refine awp_plain hN rfl ?_
    refine seq_run0 (stp_assign (.dat _) rfl) ?_
    refine awp_ret ?_
    cases H
    exact ⟨trivial, .inl rfl, trivial⟩
  · replace H := iff_ h4 H
    refine awp_skip ?_
    refine awp_seq ?_
    refine awp_seq ?_
    refine awp_plain hN rfl ?_
    refine seq_run0 (stp_fldP tyF31_1 rfl) ?_
    refine seq_run1 (stp_load1 tyS26 rfl rfl) rfl ?_
    obtain ⟨r5, h6, H⟩ := bnd H
    refine seq_run0 (stp_call (k_gateref2_HeadersFault a1.Headers r5 h6) ⟨.inl rfl, trivial⟩) ?_
    refine seq_run0 (stp_assign (.dat _) rfl) ?_
    refine awp_seq ?_
    refine awp_plain hN rfl ?_
    refine seq_run0 (stp_move (.dat _) rfl) ?_
    refine seq_run0 (stp_neq rfl rfl) ?_
    refine awp_cond _ rfl (fun h7 => ?_) (fun h7 => ?_)
    · replace H := ift h7 H
      refine awp_seq ?_
      refine awp_plain hN rfl ?_
      refine seq_run0 (stp_move (.dat _) rfl) ?_
      refine seq_run0 (stp_assign (.dat _) rfl) ?_
      refine awp_ret ?_
      cases H
      exact ⟨trivial, .inl rfl, trivial⟩
    · replace H := iff_ h7 H
      refine awp_skip ?_
      refine awp_seq ?_
      refine awp_seq ?_
      refine awp_plain hN rfl ?_
      refine seq_run0 (stp_fldP tyF31_2 rfl) ?_
      refine seq_run1 (stp_load1 tyS9 rfl rfl) rfl ?_
      refine seq_run0 (stp_len_str tyU9 rfl) ?_
      refine seq_run0 (stp_gtr rfl rfl) ?_
      refine awp_cond _ rfl (fun h8 => ?_) (fun h8 => ?_)
      · replace H := ift h8 H
        refine awp_seq ?_
        refine awp_plain hN rfl ?_
        refine seq_run0 (stp_assign (.dat _) rfl) ?_
        refine awp_ret ?_
        cases H
        exact ⟨trivial, .inl rfl, trivial⟩
      · replace H := iff_ h8 H
        refine awp_skip ?_
        refine awp_seq ?_
        refine awp_plain hN rfl ?_
        refine seq_run0 (stp_assign (.dat _) rfl) ?_
        refine awp_ret ?_
        cases H
        exact ⟨trivial, .inl rfl, trivial⟩
theorem k_gateref2_ResponseBytes (a1 : S_api_Response) (r : (Bs)) (H : m_gateref2_ResponseBytes a1 = some r) : Fn Tryz.prog 11 [vagg (C_api_Response a1)] (resOf [vstr r]) := by
  refine ⟨by kernel_rfl, pure_of (us := [vstr r]) Tryz.func11 rfl rfl rfl rfl fun X hN => ?_⟩
  unfold m_gateref2_ResponseBytes at H
  refine awp_seq ?_
  refine awp_plain hN rfl ?_
  refine seq_run2 (stp_boxA 1 rfl) rfl ?_
  refine seq_run0 (stp_assign (.dat _) rfl) ?_
  refine awp_seq ?_
  refine awp_plain hN rfl ?_
  refine seq_run0 (stp_assign (.dat _) rfl) ?_
  refine awp_joinE (ι := Bs) (fun i => [(1, .ptr 1 0), (3, .dat (vstr i))]) (fun i => [(1, .box none 31 [.dat (vint a1.Status), .dat (vlst (List.map C_api_Header a1.Headers)), .dat (vstr a1.Body)])]) (fun i => gateref2_ResponseBytes_J1 a1 i = some r) (fun i => rfl) ?_ ?_
  · skip
    refine awp_seq ?_
    refine awp_plain hN rfl ?_
    refine seq_run0 (stp_fldP tyF31_0 rfl) ?_
    refine seq_run1 (stp_load1 tyS3 rfl rfl) rfl ?_
    refine seq_run0 (stp_eql rfl rfl) ?_
    refine awp_cond _ rfl (fun h2 => ?_) (fun h2 => ?_)
    · replace H := ift h2 H
      refine awp_plain hN rfl ?_
      refine seq_run0 (stp_assign (.dat _) rfl) ?_
      exact ⟨[79, 75], H, ⟨rfl, rfl, trivial⟩, ⟨rfl, trivial⟩⟩
    · replace H := iff_ h2 H
      refine awp_skip ?_
      exact ⟨[45], H, ⟨rfl, rfl, trivial⟩, ⟨rfl, trivial⟩⟩
  · rintro reason3 H
    replace H : gateref2_ResponseBytes_J1 a1 reason3 = some r := H
    unfold gateref2_ResponseBytes_J1 at H
    refine awp_seq ?_
    refine awp_draw mixed hN rfl rfl ?_
    refine seq_run0 (stp_fldP tyF31_0 rfl) ?_
    refine seq_run1 (stp_load1 tyS3 rfl rfl) rfl ?_
    obtain ⟨r4, h5, H⟩ := bnd H
    refine seq_run0 (stp_call (k_strconv_Itoa a1.Status r4 h5) ⟨.inl rfl, trivial⟩) ?_
    obtain ⟨h6, H⟩ := gif H
    refine seq_run0 (stp_sadd rfl rfl (Nat.le_trans h6 (by decide))) ?_
    obtain ⟨h7, H⟩ := gif H
    refine seq_run0 (stp_sadd rfl rfl (Nat.le_trans h7 (by decide))) ?_
    refine seq_run0 (stp_move (.dat _) rfl) ?_
    obtain ⟨h8, H⟩ := gif H
    refine seq_run0 (stp_sadd rfl rfl (Nat.le_trans h8 (by decide))) ?_
    obtain ⟨h9, H⟩ := gif H
    refine seq_run0 (stp_sadd rfl rfl (Nat.le_trans h9 (by decide))) ?_
    refine seq_run0 (stp_fldP tyF31_1 rfl) ?_
    refine seq_run1 (stp_load1 tyS26 rfl rfl) rfl ?_
    refine seq_run0 (stp_fldP tyF31_2 rfl) ?_
    refine seq_run1 (stp_load1 tyS9 rfl rfl) rfl ?_
    obtain ⟨r10, h11, H⟩ := bnd H
    refine seq_run0 (stp_call (k_gateref2_tail a1.Headers a1.Body false r10 h11) ⟨.inl rfl, .inl rfl, .inl rfl, trivial⟩) ?_
    obtain ⟨h12, H⟩ := gif H
    refine seq_run0 (stp_sadd rfl rfl (Nat.le_trans h12 (by decide))) ?_
    refine seq_run0 (stp_assign (.dat _) rfl) ?_
    refine ⟨rfl, ?_⟩
    refine awp_ret ?_
    cases H
    exact ⟨trivial, .inl rfl, trivial⟩
theorem kb_strings_Builder_WriteByte (l1 : (List Int)) (c2 : Int) (r : (Int × (List Int))) (H : m_strings_Builder_WriteByte l1 c2 = some r) : FnG Tryz.prog 105 [.ptr 0 0, .dat (vval (.int .u8 c2))] [(0, .box (some 0) 53 [.nptr 0, .row 1 l1.length]), (1, .row 5 1 (List.map C_uint8 l1))] (.dat (resOf [verr r.1])) [(0, .box (some 0) 53 [.nptr 0, .row 900 r.2.length]), (900, .row 5 1 (List.map C_uint8 r.2))] := by
  refine fnG_of (by kernel_rfl) Tryz.func105 rfl rfl rfl rfl fun X A hN => ?_
  refine awp_cv ?_
  unfold m_strings_Builder_WriteByte at H
  refine awp_seq ?_
  refine awp_plain hN rfl ?_
  refine seq_run0 (stp_assign (.dat _) rfl) ?_
  refine awp_seq ?_
  refine awp_plain hN rfl ?_
  refine seq_run0 (stp_move (.ptr _ _) rfl) ?_
  refine seq_run2 (stp_cc cc_prog rfl) rfl ?_
  refine awp_seq ?_
  refine awp_plain hN rfl ?_
  refine seq_run0 (stp_move (.ptr _ _) rfl) ?_
  refine seq_run0 (stp_move (.ptr _ _) rfl) ?_
  refine seq_run0 (stp_nilP rfl) ?_
  refine seq_run0 (stp_fldP tyF53_1 rfl) ?_
  refine seq_run1 (stp_load1 tyS51 rfl rfl) rfl ?_
  refine seq_run0 (stp_move (.dat _) rfl) ?_
  refine seq_run0 (stp_dat (u' := vlst (List.map C_uint8 [c2])) (stp_lit [[_]] tyL51 ⟨rfl, .inl ⟨_, rfl, rfl, rfl⟩, rfl, trivial⟩ rfl rfl) rfl) ?_
  obtain ⟨h3, H⟩ := gif H
  refine seq_run2 (t_app tyL51 (fun _ => rfl) rfl rfl rfl ⟨by simp, by simpa using h3⟩ rfl) rfl ?_
  refine seq_run0 (stp_nilP rfl) ?_
  refine seq_run0 (stp_fldP tyF53_1 rfl) ?_
  refine seq_run4 (stp_storeS tyS51 rfl rfl (by rw [List.length_map]) rfl) rfl rfl ?_
  refine awp_seq ?_
  refine awp_plain hN rfl ?_
  refine seq_run0 (stp_assign (.dat _) rfl) ?_
  refine awp_ret ?_
  cases H
  show Cv _ _ _ _
  refine cv_ren (rn [(1, 900)]) [(4, .dat (verr 0))] [(0, .box (some (A.bl 0)) 53 [.nptr 0, .row 1 ((l1 ++ [c2]).length)]), (1, .row 5 1 (List.map C_uint8 (l1 ++ [c2])))] ⟨rfl, trivial⟩ ⟨rfl, rfl, trivial⟩ rfl rfl ?_
  exact ⟨trivial, [(4, .dat (verr 0))], ⟨rfl, trivial⟩, ⟨rfl, rfl, trivial⟩, rfl, .inl ⟨[verr 0], ⟨rfl, trivial⟩, rfl⟩⟩
theorem k_message_isHex (c1 : Int) (r : (Bool)) (H : m_message_isHex c1 = some r) : Fn Tryz.prog 141 [vval (.int .u8 c1)] (resOf [vbool r]) := by
  refine ⟨by kernel_rfl, pure_of (us := [vbool r]) Tryz.func141 rfl rfl rfl rfl fun X hN => ?_⟩
  unfold m_message_isHex at H
  refine awp_seq ?_
  refine awp_plain hN rfl ?_
  refine seq_run0 (stp_assign (.dat _) rfl) ?_
  refine awp_seq ?_
  refine awp_plain hN rfl ?_
  refine seq_run0 (stp_move (.dat _) rfl) ?_
  obtain ⟨r2, h3, H⟩ := bnd H
  refine seq_run0 (stp_call (k_message_isDigit c1 r2 h3) ⟨.inl rfl, trivial⟩) ?_
  refine seq_run0 (stp_move (.dat _) rfl) ?_
  refine seq_aF rfl rfl (fun hc => stp_move (.dat _) rfl) ?_
  refine seq_aF rfl rfl (fun hc => stp_geq (cnd (c := (!r2)) hc) rfl) ?_
  refine seq_aF rfl rfl (fun hc => stp_move (.dat _) (cnd (c := (!r2)) hc)) ?_
  refine seq_bT rfl rfl (fun hc => stp_move (.dat _) rfl) ?_
  refine seq_bT rfl rfl (fun hc => stp_leq (cnd (c := ((!r2) && (decide (97 ≤ c1)))) hc) rfl) ?_
  refine seq_aF rfl rfl (fun hc => stp_pick_and (cnd (c := (!r2)) hc) (fun hb => (cnd (c := ((!r2) && (decide (97 ≤ c1)))) (andI hc hb))) rfl) ?_
  refine seq_run0 (stp_pick_or rfl rfl (fun hb => (cnd (c := (!r2)) (notI hb)))) ?_
  refine seq_run0 (stp_move (.dat _) rfl) ?_
  refine seq_aF rfl rfl (fun hc => stp_move (.dat _) rfl) ?_
  refine seq_aF rfl rfl (fun hc => stp_geq (cnd (c := (!(r2 || ((decide (97 ≤ c1)) && (decide (c1 ≤ 102)))))) hc) rfl) ?_
  refine seq_aF rfl rfl (fun hc => stp_move (.dat _) (cnd (c := (!(r2 || ((decide (97 ≤ c1)) && (decide (c1 ≤ 102)))))) hc)) ?_
  refine seq_bT rfl rfl (fun hc => stp_move (.dat _) rfl) ?_
  refine seq_bT rfl rfl (fun hc => stp_leq (cnd (c := ((!(r2 || ((decide (97 ≤ c1)) && (decide (c1 ≤ 102))))) && (decide (65 ≤ c1)))) hc) rfl) ?_
  refine seq_aF rfl rfl (fun hc => stp_pick_and (cnd (c := (!(r2 || ((decide (97 ≤ c1)) && (decide (c1 ≤ 102)))))) hc) (fun hb => (cnd (c := ((!(r2 || ((decide (97 ≤ c1)) && (decide (c1 ≤ 102))))) && (decide (65 ≤ c1)))) (andI hc hb))) rfl) ?_
  refine seq_run0 (stp_pick_or rfl rfl (fun hb => (cnd (c := (!(r2 || ((decide (97 ≤ c1)) && (decide (c1 ≤ 102)))))) (notI hb)))) ?_
  refine seq_run0 (stp_assign (.dat _) rfl) ?_
  refine awp_ret ?_
  cases H
  exact ⟨trivial, .inl rfl, trivial⟩
theorem k_message_isUnit (s1 : Bs) (v2 : Int) (r : (Bool)) (H : m_message_isUnit s1 v2 = some r) : Fn Tryz.prog 111 [vstr s1, vint v2] (resOf [vbool r]) := by
  refine ⟨by kernel_rfl, pure_of (us := [vbool r]) Tryz.func111 rfl rfl rfl rfl fun X hN => ?_⟩
  unfold m_message_isUnit at H
  refine awp_seq ?_
  refine awp_plain hN rfl ?_
  refine seq_run0 (stp_assign (.dat _) rfl) ?_
  refine awp_joinE (ι := Bool) (fun i => [(4, .dat (vbool i))]) (fun i => []) (fun i => message_isUnit_J1 i = some r) (fun i => rfl) ?_ ?_
  · skip
    refine awp_plain hN rfl ?_
    refine seq_run0 (stp_move (.dat _) rfl) ?_
    refine seq_run0 (stp_wrap _ rfl rfl (.inl ⟨rfl, rfl⟩)) ?_
    refine seq_run0 (stp_move (.dat _) rfl) ?_
    refine seq_run0 (stp_len_str tyU9 rfl) ?_
    refine seq_run0 (stp_lss rfl rfl) ?_
    refine seq_run0 (stp_move (.dat _) rfl) ?_
    refine seq_split (j := 5) rfl rfl (fun h3 => ?_) (fun h3 => ?_) rfl
    · have h4 := un1 h3
      replace H := ift h4 H
      refine seq_g0 rfl rfl h3 (stp_move (.dat _) rfl) ?_
      refine seq_g0 rfl rfl h3 (stp_move (.dat _) rfl) ?_
      refine seq_g0 rfl rfl h3 (stp_wrap _ rfl rfl (.inl ⟨rfl, rfl⟩)) ?_
      obtain ⟨x5, h6, H⟩ := bnd H
      refine seq_g0 rfl rfl h3 (t_byteI tyU9 rfl rfl h6) ?_
      obtain ⟨r7, h8, H⟩ := bnd H
      refine seq_g0 rfl rfl h3 (stp_call (k_message_isHex (x5.toNat : Int) r7 h8) ⟨.inl rfl, trivial⟩) ?_
      refine seq_run0 (stp_pick_t rfl (bTT h4) rfl) ?_
      refine seq_run0 (stp_move (.dat _) rfl) ?_
      refine seq_split (j := 12) rfl rfl (fun h9 => ?_) (fun h9 => ?_) rfl
      · have h10 := un1 h9
        replace H := ift h10 H
        refine seq_g0 rfl rfl h9 (stp_move (.dat _) rfl) ?_
        refine seq_g0 rfl rfl h9 (stp_move (.dat _) rfl) ?_
        refine seq_g0 rfl rfl h9 (stp_wrap _ rfl rfl (.inl ⟨rfl, rfl⟩)) ?_
        obtain ⟨x11, h12, H⟩ := bnd H
        refine seq_g0 rfl rfl h9 (t_byteI tyU9 rfl rfl h12) ?_
        obtain ⟨r13, h14, H⟩ := bnd H
        refine seq_g0 rfl rfl h9 (stp_call (k_message_isHex (x11.toNat : Int) r13 h14) ⟨.inl rfl, trivial⟩) ?_
        refine seq_run0 (stp_pick_t rfl (bTT h10) rfl) ?_
        refine seq_run0 (stp_assign (.dat _) rfl) ?_
        exact ⟨r13, H, ⟨rfl, trivial⟩, trivial⟩
      · have h15 := un2 h9
        replace H := iff_ h15 H
        refine seq_skip rfl rfl h9 ?_
        refine seq_skip rfl rfl h9 ?_
        refine seq_skip rfl rfl h9 ?_
        refine seq_skip rfl rfl h9 ?_
        refine seq_skip rfl rfl h9 ?_
        refine seq_run0 (stp_pick_f rfl (bFF h15) rfl) ?_
        refine seq_run0 (stp_assign (.dat _) rfl) ?_
        exact ⟨false, H, ⟨rfl, trivial⟩, trivial⟩
    · have h16 := un2 h3
      replace H := iff_ h16 H
      refine seq_skip rfl rfl h3 ?_
      refine seq_skip rfl rfl h3 ?_
      refine seq_skip rfl rfl h3 ?_
      refine seq_skip rfl rfl h3 ?_
      refine seq_skip rfl rfl h3 ?_
      refine seq_run0 (stp_pick_f rfl (bFF h16) rfl) ?_
      refine seq_run0 (stp_move (.dat _) rfl) ?_
      refine seq_skip rfl rfl rfl ?_
      refine seq_skip rfl rfl rfl ?_
      refine seq_skip rfl rfl rfl ?_
      refine seq_skip rfl rfl rfl ?_
      refine seq_skip rfl rfl rfl ?_
      refine seq_run0 (stp_pick_f rfl rfl rfl) ?_
      refine seq_run0 (stp_assign (.dat _) rfl) ?_
      exact ⟨false, H, ⟨rfl, trivial⟩, trivial⟩
  · rintro v17 H
    replace H : message_isUnit_J1 v17 = some r := H
    unfold message_isUnit_J1 at H
    refine awp_ret ?_
    cases H
    exact ⟨trivial, .inl rfl, trivial⟩
theorem k_strconv_ParseUint (s1 : Bs) (base2 : Int) (bitSize3 : Int) (r : (Int × Int)) (H : m_strconv_ParseUint s1 base2 bitSize3 = some r) : Fn Tryz.prog 142 [vstr s1, vint base2, vint bitSize3] (resOf [vval (.int .u64 r.1), verr r.2]) := by
  refine ⟨by kernel_rfl, pure_of (us := [vval (.int .u64 r.1), verr r.2]) Tryz.func142 rfl rfl rfl rfl fun X hN => ?_⟩
  unfold m_strconv_ParseUint at H
  refine awp_seq ?_
  refine awp_plain hN rfl ?_
  refine seq_run0 (stp_assign (.dat _) rfl) ?_
  refine seq_run0 (stp_assign (.dat _) rfl) ?_
  refine awp_seq ?_
  refine awp_plain hN rfl ?_
  refine seq_run0 (stp_move (.dat _) rfl) ?_
  refine seq_run0 (stp_move (.dat _) rfl) ?_
  refine seq_run0 (stp_move (.dat _) rfl) ?_
  obtain ⟨r4, h5, H⟩ := bnd H
  refine seq_run0 (stp_call (k_internal_strconv_ParseUint s1 base2 bitSize3 r4 h5) ⟨.inl rfl, .inl rfl, .inl rfl, trivial⟩) ?_
  refine seq_run0 (stp_move (.dat _) rfl) ?_
  refine seq_run0 (stp_ext rfl rfl) ?_
  refine seq_run0 (stp_ext rfl rfl) ?_
  refine seq_run0 (stp_assign (.dat _) rfl) ?_
  refine seq_run0 (stp_assign (.dat _) rfl) ?_
  refine awp_seq ?_
  refine awp_seq ?_
  refine awp_plain hN rfl ?_
  refine seq_run0 (stp_move (.dat _) rfl) ?_
  refine seq_run0 (stp_errneq (n := r4.2) (show Tryz.prog.underlying 55 = some (.interface (Tryz.prog.methodsAt 55)) from by kernel_rfl) rfl) ?_
  refine awp_cond _ rfl (fun h6 => ?_) (fun h6 => ?_)
  · replace H := ift h6 H
    refine awp_seq ?_
    refine awp_plain hN rfl ?_
    refine seq_run0 (stp_move (.dat _) rfl) ?_
    refine seq_run0 (stp_move (.dat _) rfl) ?_
    refine seq_run0 (stp_move (.dat _) rfl) ?_
    refine seq_run0 (stp_move (.dat _) rfl) ?_
    refine seq_run0 (stp_move (.dat _) rfl) ?_
    obtain ⟨r7, h8, H⟩ := bnd H
    refine seq_run0 (stp_call (k_strconv_toError [80, 97, 114, 115, 101, 85, 105, 110, 116] s1 base2 bitSize3 r4.2 r7 h8) ⟨.inl rfl, .inl rfl, .inl rfl, .inl rfl, .inl rfl, trivial⟩) ?_
    refine seq_run0 (stp_assign (.dat _) rfl) ?_
    refine seq_run0 (stp_assign (.dat _) rfl) ?_
    refine awp_ret ?_
    cases H
    exact ⟨trivial, .inl rfl, .inl rfl, trivial⟩
  · replace H := iff_ h6 H
    refine awp_skip ?_
    refine awp_seq ?_
    refine awp_plain hN rfl ?_
    refine seq_run0 (stp_move (.dat _) rfl) ?_
    refine seq_run0 (stp_assign (.dat _) rfl) ?_
    refine seq_run0 (stp_assign (.dat _) rfl) ?_
    refine awp_ret ?_
    cases H
    exact ⟨trivial, .inl rfl, .inl rfl, trivial⟩
theorem k_message_unit (s1 : Bs) (v2 : Int) (r : (Int)) (H : m_message_unit s1 v2 = some r) : Fn Tryz.prog 112 [vstr s1, vint v2] (resOf [vval (.int .u8 r)]) := by
  refine ⟨by kernel_rfl, pure_of (us := [vval (.int .u8 r)]) Tryz.func112 rfl rfl rfl rfl fun X hN => ?_⟩
  unfold m_message_unit at H
  refine awp_seq ?_
  refine awp_plain hN rfl ?_
  refine seq_run0 (stp_assign (.dat _) rfl) ?_
  refine awp_seq ?_
  refine awp_plain hN rfl ?_
  refine seq_run0 (stp_move (.dat _) rfl) ?_
  refine seq_run0 (stp_move (.dat _) rfl) ?_
  refine seq_run0 (stp_wrap _ rfl rfl (.inl ⟨rfl, rfl⟩)) ?_
  refine seq_run0 (stp_move (.dat _) rfl) ?_
  refine seq_run0 (stp_wrap _ rfl rfl (.inl ⟨rfl, rfl⟩)) ?_
  obtain ⟨l3, h4, H⟩ := bnd H
  refine seq_run0 (t_subS tyU9 rfl rfl rfl h4) ?_
  obtain ⟨r5, h6, H⟩ := bnd H
  refine seq_run0 (stp_call (k_strconv_ParseUint l3 16 8 r5 h6) ⟨.inl rfl, .inl rfl, .inl rfl, trivial⟩) ?_
  refine seq_run0 (stp_move (.dat _) rfl) ?_
  refine seq_run0 (stp_ext rfl rfl) ?_
  refine seq_run0 (stp_ext rfl rfl) ?_
  refine seq_run0 (stp_assign (.dat _) rfl) ?_
  refine seq_run0 (stp_assign (.dat _) rfl) ?_
  refine awp_seq ?_
  refine awp_seq ?_
  refine awp_plain hN rfl ?_
  refine seq_run0 (stp_move (.dat _) rfl) ?_
  refine seq_run0 (stp_errneq (n := r5.2) (show Tryz.prog.underlying 55 = some (.interface (Tryz.prog.methodsAt 55)) from by kernel_rfl) rfl) ?_
  refine awp_cond _ rfl (fun h7 => ?_) (fun h7 => ?_)
  · replace H := ift h7 H
    refine awp_seq ?_
    refine awp_plain hN rfl ?_
    refine seq_run0 (stp_assign (.dat _) rfl) ?_
    refine awp_ret ?_
    cases H
    exact ⟨trivial, .inl rfl, trivial⟩
  · replace H := iff_ h7 H
    refine awp_skip ?_
    refine awp_seq ?_
    refine awp_plain hN rfl ?_
    refine seq_run0 (stp_move (.dat _) rfl) ?_
    refine seq_run0 (stp_conv tyU98 tyU5 rfl) ?_
    refine seq_run0 (stp_assign (.dat _) rfl) ?_
    refine awp_ret ?_
    cases H
    exact ⟨trivial, .inl rfl, trivial⟩
theorem k_message_isFree (c1 : Int) (r : (Bool)) (H : m_message_isFree c1 = some r) : Fn Tryz.prog 113 [vval (.int .u8 c1)] (resOf [vbool r]) := by
  refine ⟨by kernel_rfl, pure_of (us := [vbool r]) Tryz.func113 rfl rfl rfl rfl fun X hN => ?_⟩
  unfold m_message_isFree at H
  refine awp_seq ?_
  refine awp_plain hN rfl ?_
  refine seq_run0 (stp_assign (.dat _) rfl) ?_
  refine awp_joinE (ι := Bool) (fun i => [(2, .dat (vbool i))]) (fun i => []) (fun i => message_isFree_J1 i = some r) (fun i => rfl) ?_ ?_
  · skip
    refine awp_plain hN rfl ?_
    refine seq_run0 (stp_move (.dat _) rfl) ?_
    obtain ⟨r2, h3, H⟩ := bnd H
    refine seq_run0 (stp_call (k_message_isLetter c1 r2 h3) ⟨.inl rfl, trivial⟩) ?_
    refine seq_run0 (stp_move (.dat _) rfl) ?_
    refine seq_split (j := 2) rfl rfl (fun h4 => ?_) (fun h4 => ?_) rfl
    · have h5 := un3 h4
      replace H := iff_ h5 H
      refine seq_g0 rfl rfl h4 (stp_move (.dat _) rfl) ?_
      obtain ⟨r6, h7, H⟩ := bnd H
      refine seq_g0 rfl rfl h4 (stp_call (k_message_isDigit c1 r6 h7) ⟨.inl rfl, trivial⟩) ?_
      refine seq_run0 (stp_pick_f rfl (bFF h5) rfl) ?_
      refine seq_run0 (stp_move (.dat _) rfl) ?_
      refine seq_split (j := 6) rfl rfl (fun h8 => ?_) (fun h8 => ?_) rfl
      · have h9 := un3 h8
        replace H := iff_ h9 H
        refine seq_g0 rfl rfl h8 (stp_move (.dat _) rfl) ?_
        obtain ⟨r10, h11, H⟩ := bnd H
        refine seq_g0 rfl rfl h8 (stp_call (k_strings_IndexByte [45, 46, 95, 126] c1 r10 h11) ⟨.inl rfl, .inl rfl, trivial⟩) ?_
        refine seq_g0 rfl rfl h8 (stp_geq rfl rfl) ?_
        refine seq_run0 (stp_pick_f rfl (bFF h9) rfl) ?_
        refine seq_run0 (stp_assign (.dat _) rfl) ?_
        exact ⟨decide (0 ≤ r10), H, ⟨rfl, trivial⟩, trivial⟩
      · have h12 := un4 h8
        replace H := ift h12 H
        refine seq_skip rfl rfl h8 ?_
        refine seq_skip rfl rfl h8 ?_
        refine seq_skip rfl rfl h8 ?_
        refine seq_run0 (stp_pick_t rfl (bTT h12) rfl) ?_
        refine seq_run0 (stp_assign (.dat _) rfl) ?_
        exact ⟨true, H, ⟨rfl, trivial⟩, trivial⟩
    · have h13 := un4 h4
      replace H := ift h13 H
      refine seq_skip rfl rfl h4 ?_
      refine seq_skip rfl rfl h4 ?_
      refine seq_run0 (stp_pick_t rfl (bTT h13) rfl) ?_
      refine seq_run0 (stp_move (.dat _) rfl) ?_
      refine seq_skip rfl rfl rfl ?_
      refine seq_skip rfl rfl rfl ?_
      refine seq_skip rfl rfl rfl ?_
      refine seq_run0 (stp_pick_t rfl rfl rfl) ?_
      refine seq_run0 (stp_assign (.dat _) rfl) ?_
      exact ⟨true, H, ⟨rfl, trivial⟩, trivial⟩
  · rintro v14 H
    replace H : message_isFree_J1 v14 = some r := H
    unfold message_isFree_J1 at H
    refine awp_ret ?_
    cases H
    exact ⟨trivial, .inl rfl, trivial⟩
theorem k_message_percent (c1 : Int) (r : (Bs)) (H : m_message_percent c1 = some r) : Fn Tryz.prog 114 [vval (.int .u8 c1)] (resOf [vstr r]) := by
  refine ⟨by kernel_rfl, pure_of (us := [vstr r]) Tryz.func114 rfl rfl rfl rfl fun X hN => ?_⟩
  unfold m_message_percent at H
  refine awp_seq ?_
  refine awp_plain hN rfl ?_
  refine seq_run0 (stp_assign (.dat _) rfl) ?_
  refine awp_seq ?_
  refine awp_draw mixed hN rfl rfl ?_
  refine seq_run0 (stp_move (.dat _) rfl) ?_
  refine seq_run0 (stp_dat (stp_shr rfl rfl (by decide)) rfl) ?_
  obtain ⟨x2, h3, H⟩ := bnd H
  refine seq_run0 (t_byteK tyU9 rfl rfl h3) ?_
  refine seq_run0 (stp_move (.dat _) rfl) ?_
  refine seq_run0 (stp_dat (stp_and rfl rfl) rfl) ?_
  obtain ⟨x4, h5, H⟩ := bnd H
  refine seq_run0 (t_byteK tyU9 rfl rfl h5) ?_
  refine seq_run0 (stp_dat (u' := vlst (List.map C_uint8 [37, (x2.toNat : Int), (x4.toNat : Int)])) (stp_lit [[_], [_], [_]] tyL51 ⟨rfl, .inl ⟨_, rfl, rfl, rfl⟩, rfl, rfl, .inl ⟨_, rfl, rfl, rfl⟩, rfl, rfl, .inl ⟨_, rfl, rfl, rfl⟩, rfl, trivial⟩ rfl rfl) rfl) ?_
  refine seq_run0 (stp_convB (C := C_uint8) tyU51 tyU5 tyU9 (fun _ => rfl) rfl) ?_
  refine seq_run0 (stp_assign (.dat _) rfl) ?_
  refine ⟨rfl, ?_⟩
  refine awp_ret ?_
  cases H
  exact ⟨trivial, .inl rfl, trivial⟩
theorem k_message_normalUnits (s1 : Bs) (r : (Bs × Bool)) (H : m_message_normalUnits s1 = some r) : Fn Tryz.prog 79 [vstr s1] (resOf [vstr r.1, vbool r.2]) := by
  refine ⟨by kernel_rfl, pure_of (us := [vstr r.1, vbool r.2]) Tryz.func79 rfl rfl rfl rfl fun X hN => ?_⟩
  unfold m_message_normalUnits at H
  refine awp_seq ?_
  refine awp_plain hN rfl ?_
  refine seq_run0 (stp_assign (.dat _) rfl) ?_
  refine seq_run0 (stp_assign (.dat _) rfl) ?_
  refine awp_seq ?_
  refine awp_plain hN rfl ?_
  refine seq_run2 (stp_alloc 1 tyZ53 rfl) rfl ?_
  refine awp_wkB 1 0 (.nptr 1) rfl rfl nptr_nil ?_
  refine awp_nilrowB 1 1 2 5 1 rfl rfl rfl rfl ?_
  refine awp_joinE (ι := (List Int)) (fun i => [(4, .ptr 1 0)]) (fun i => [(1, .box none 53 [.nptr 1, .row 2 i.length]), (2, .row 5 1 (List.map C_uint8 i))]) (fun i => message_normalUnits_J1 i = some r) (fun i => rfl) ?_ ?_
  · refine awp_cv ?_
    refine awp_seq ?_
    refine awp_plain hN rfl ?_
    refine seq_run0 (stp_assign (.dat _) rfl) ?_
    refine awp_block ?_
    refine awp_iter (fun (s : Int × (List Int)) => [(0, .dat (vstr s1)), (4, .ptr 1 0), (5, .dat (vint s.1))]) (fun (s : Int × (List Int)) => [(1, .box none 53 [.nptr 1, .row 2 s.2.length]), (2, .row 5 1 (List.map C_uint8 s.2))]) (0, ([] : List Int)) H ⟨rfl, rfl, rfl, trivial⟩ ⟨rfl, rfl, trivial⟩ (fun _ => rfl) ?_
    rintro ⟨i2, l3⟩ q4 H hq4
    replace H : message_normalUnits_L2 s1 i2 l3 = some q4 := H
    unfold message_normalUnits_L2 at H
    refine awp_cv ?_
    refine awp_seq ?_
    refine awp_seq ?_
    refine awp_plain hN rfl ?_
    refine seq_run0 (stp_move (.dat _) rfl) ?_
    refine seq_run0 (stp_move (.dat _) rfl) ?_
    refine seq_run0 (stp_len_str tyU9 rfl) ?_
    refine seq_run0 (stp_lss rfl rfl) ?_
    refine awp_cond _ rfl (fun h5 => ?_) (fun h5 => ?_)
    · replace H := ift h5 H
      refine awp_skip ?_
      refine awp_joinE (ι := Int × (List Int)) (fun i => [(0, .dat (vstr s1)), (4, .ptr 1 0), (5, .dat (vint i.1))]) (fun i => [(1, .box none 53 [.nptr 1, .row 7 i.2.length]), (7, .row 5 1 (List.map C_uint8 i.2))]) (fun i => message_normalUnits_J3 i.1 i.2 = some q4) (fun i => rfl) ?_ ?_
      · refine awp_cv ?_
        refine awp_block ?_
        refine awp_seq ?_
        refine awp_seq ?_
        refine awp_plain hN rfl ?_
        refine seq_run0 (stp_move (.dat _) rfl) ?_
        refine seq_run0 (stp_move (.dat _) rfl) ?_
        obtain ⟨x6, h7, H⟩ := bnd H
        refine seq_run0 (t_byteI tyU9 rfl rfl h7) ?_
        refine seq_run0 (stp_neq rfl rfl) ?_
        refine awp_cond _ rfl (fun h8 => ?_) (fun h8 => ?_)
        · replace H := ift h8 H
          refine awp_seq ?_
          refine awp_plain hN rfl ?_
          refine seq_run0 (stp_move (.dat _) rfl) ?_
          refine seq_run0 (stp_move (.dat _) rfl) ?_
          refine seq_run0 (t_byteI tyU9 rfl rfl h7) ?_
          obtain ⟨r9, h10, H⟩ := bnd H
          refine seq_callG (rn [(0, 1), (1, 2), (900, 3)]) [(0, _, _, some _), (1, _, _, none)] [(900, _)] (kb_strings_Builder_WriteByte l3 (x6.toNat : Int) r9 h10) ⟨rfl, rfl, rfl, trivial⟩ ⟨.inl (.inl rfl), .inl (.inl rfl), trivial⟩ ⟨⟨⟨rfl, rfl⟩, trivial⟩, ⟨⟨rfl, rfl, rfl⟩, trivial⟩, trivial⟩ rfl ?_
          refine awp_exit ?_
          show Cv _ _ _ _
          refine cv_ren (rn [(3, 7)]) [(0, .dat (vstr s1)), (4, .ptr 1 0), (5, .dat (vint i2))] [(1, .box none 53 [.nptr 1, .row 3 r9.2.length]), (3, .row 5 1 (List.map C_uint8 r9.2))] ⟨rfl, rfl, rfl, trivial⟩ ⟨rfl, rfl, trivial⟩ rfl rfl ?_
          exact ⟨(i2, r9.2), H, ⟨rfl, rfl, rfl, trivial⟩, ⟨rfl, rfl, trivial⟩⟩
        · replace H := iff_ h8 H
          refine awp_skip ?_
          refine awp_seq ?_
          refine awp_seq ?_
          refine awp_plain hN rfl ?_
          refine seq_run0 (stp_move (.dat _) rfl) ?_
          refine seq_run0 (stp_move (.dat _) rfl) ?_
          obtain ⟨r11, h12, H⟩ := bnd H
          refine seq_run0 (stp_call (k_message_isUnit s1 i2 r11 h12) ⟨.inl rfl, .inl rfl, trivial⟩) ?_
          refine seq_run0 (stp_not rfl) ?_
          refine awp_cond _ rfl (fun h13 => ?_) (fun h13 => ?_)
          · replace H := ift h13 H
            refine awp_seq ?_
            refine awp_plain hN rfl ?_
            refine seq_run0 (stp_assign (.dat _) rfl) ?_
            refine seq_run0 (stp_assign (.dat _) rfl) ?_
            refine awp_ret ?_
            replace H := retl H hq4
            cases H
            show Cv _ _ _ _
            refine cv_in ?_
            show Cv _ _ _ _
            refine cv_in ?_
            show Cv _ _ _ _
            refine cv_in ?_
            exact ⟨trivial, .inl rfl, .inl rfl, trivial⟩
          · replace H := iff_ h13 H
            refine awp_skip ?_
            refine awp_joinE (ι := (List Int)) (fun i => [(0, .dat (vstr s1)), (4, .ptr 1 0), (5, .dat (vint i2))]) (fun i => [(1, .box none 53 [.nptr 1, .row 6 i.length]), (6, .row 5 1 (List.map C_uint8 i))]) (fun i => message_normalUnits_J4 i2 i = some q4) (fun i => rfl) ?_ ?_
            · refine awp_cv ?_
              refine awp_seq ?_
              refine awp_plain hN rfl ?_
              refine seq_run0 (stp_move (.dat _) rfl) ?_
              refine seq_run0 (stp_move (.dat _) rfl) ?_
              obtain ⟨r14, h15, H⟩ := bnd H
              refine seq_run0 (stp_call (k_message_unit s1 i2 r14 h15) ⟨.inl rfl, .inl rfl, trivial⟩) ?_
              refine seq_run0 (stp_assign (.dat _) rfl) ?_
              refine awp_seq ?_
              refine awp_plain hN rfl ?_
              refine seq_run0 (stp_move (.dat _) rfl) ?_
              obtain ⟨r16, h17, H⟩ := bnd H
              refine seq_run0 (stp_call (k_message_isFree r14 r16 h17) ⟨.inl rfl, trivial⟩) ?_
              refine awp_cond _ rfl (fun h18 => ?_) (fun h18 => ?_)
              · replace H := ift h18 H
                refine awp_plain hN rfl ?_
                refine seq_run0 (stp_move (.dat _) rfl) ?_
                obtain ⟨r19, h20, H⟩ := bnd H
                refine seq_callG (rn [(0, 1), (1, 2), (900, 4)]) [(0, _, _, some _), (1, _, _, none)] [(900, _)] (kb_strings_Builder_WriteByte l3 r14 r19 h20) ⟨rfl, rfl, rfl, trivial⟩ ⟨.inl (.inl rfl), .inl (.inl rfl), trivial⟩ ⟨⟨⟨rfl, rfl⟩, trivial⟩, ⟨⟨rfl, rfl, rfl⟩, trivial⟩, trivial⟩ rfl ?_
                refine seq_end ?_
                show Cv _ _ _ _
                refine cv_ren (rn [(4, 6)]) [(0, .dat (vstr s1)), (4, .ptr 1 0), (5, .dat (vint i2))] [(1, .box none 53 [.nptr 1, .row 4 r19.2.length]), (4, .row 5 1 (List.map C_uint8 r19.2))] ⟨rfl, rfl, rfl, trivial⟩ ⟨rfl, rfl, trivial⟩ rfl rfl ?_
                exact ⟨r19.2, H, ⟨rfl, rfl, rfl, trivial⟩, ⟨rfl, rfl, trivial⟩⟩
              · replace H := iff_ h18 H
                refine awp_plain hN rfl ?_
                refine seq_run0 (stp_move (.dat _) rfl) ?_
                obtain ⟨r21, h22, H⟩ := bnd H
                refine seq_run0 (stp_call (k_message_percent r14 r21 h22) ⟨.inl rfl, trivial⟩) ?_
                obtain ⟨r23, h24, H⟩ := bnd H
                refine seq_callG (rn [(0, 1), (1, 2), (900, 5)]) [(0, _, _, some _), (1, _, _, none)] [(900, _)] (kb_strings_Builder_WriteString l3 r21 r23 h24) ⟨rfl, rfl, rfl, trivial⟩ ⟨.inl (.inl rfl), .inl (.inl rfl), trivial⟩ ⟨⟨⟨rfl, rfl⟩, trivial⟩, ⟨⟨rfl, rfl, rfl⟩, trivial⟩, trivial⟩ rfl ?_
                refine seq_end ?_
                show Cv _ _ _ _
                refine cv_ren (rn [(5, 6)]) [(0, .dat (vstr s1)), (4, .ptr 1 0), (5, .dat (vint i2))] [(1, .box none 53 [.nptr 1, .row 5 r23.2.2.length]), (5, .row 5 1 (List.map C_uint8 r23.2.2))] ⟨rfl, rfl, rfl, trivial⟩ ⟨rfl, rfl, trivial⟩ rfl rfl ?_
                exact ⟨r23.2.2, H, ⟨rfl, rfl, rfl, trivial⟩, ⟨rfl, rfl, trivial⟩⟩
            · rintro l25 H
              replace H : message_normalUnits_J4 i2 l25 = some q4 := H
              unfold message_normalUnits_J4 at H
              refine awp_plain hN rfl ?_
              refine seq_run0 (stp_move (.dat _) rfl) ?_
              refine seq_run0 (stp_wrap _ rfl rfl (.inl ⟨rfl, rfl⟩)) ?_
              refine seq_run0 (stp_assign (.dat _) rfl) ?_
              refine seq_end ?_
              show Cv _ _ _ _
              refine cv_ren (rn [(6, 7)]) [(0, .dat (vstr s1)), (4, .ptr 1 0), (5, .dat (vint (wr (i2 + 2))))] [(1, .box none 53 [.nptr 1, .row 6 l25.length]), (6, .row 5 1 (List.map C_uint8 l25))] ⟨rfl, rfl, rfl, trivial⟩ ⟨rfl, rfl, trivial⟩ rfl rfl ?_
              exact ⟨(wr (i2 + 2), l25), H, ⟨rfl, rfl, rfl, trivial⟩, ⟨rfl, rfl, trivial⟩⟩
      · rintro ⟨i26, l27⟩ H
        replace H : message_normalUnits_J3 i26 l27 = some q4 := H
        unfold message_normalUnits_J3 at H
        refine awp_plain hN rfl ?_
        refine seq_run0 (stp_move (.dat _) rfl) ?_
        refine seq_run0 (stp_wrap _ rfl rfl (.inl ⟨rfl, rfl⟩)) ?_
        refine seq_run0 (stp_assign (.dat _) rfl) ?_
        refine seq_end ?_
        show Cv _ _ _ _
        refine cv_ren (rn [(7, 2)]) [(0, .dat (vstr s1)), (4, .ptr 1 0), (5, .dat (vint (wr (i26 + 1))))] [(1, .box none 53 [.nptr 1, .row 7 l27.length]), (7, .row 5 1 (List.map C_uint8 l27))] ⟨rfl, rfl, rfl, trivial⟩ ⟨rfl, rfl, trivial⟩ rfl rfl ?_
        exact ⟨_, backl H, ⟨rfl, rfl, rfl, trivial⟩, ⟨rfl, rfl, trivial⟩⟩
    · replace H := iff_ h5 H
      refine awp_exit ?_
      replace H := outl H hq4
      show Cv _ _ _ _
      refine cv_in ?_
      show Cv _ _ _ _
      refine cv_in ?_
      exact ⟨l3, H, ⟨rfl, trivial⟩, ⟨rfl, rfl, trivial⟩⟩
  · rintro l28 H
    replace H : message_normalUnits_J1 l28 = some r := H
    unfold message_normalUnits_J1 at H
    refine awp_seq ?_
    refine awp_plain hN rfl ?_
    obtain ⟨h29, H⟩ := gif H
    refine seq_callG (rn [(0, 1), (1, 2)]) [(0, _, _, none), (1, _, _, none)] [] (kbs_String h29 (C := C_uint8) (fun _ => rfl)) ⟨rfl, rfl, trivial⟩ ⟨.inl (.inl rfl), trivial⟩ ⟨⟨⟨rfl, rfl⟩, trivial⟩, ⟨⟨rfl, rfl, rfl⟩, trivial⟩, trivial⟩ rfl ?_
    refine seq_run0 (stp_assign (.dat _) rfl) ?_
    refine seq_run0 (stp_assign (.dat _) rfl) ?_
    refine awp_ret ?_
    cases H
    exact ⟨trivial, .inl rfl, .inl rfl, trivial⟩
theorem k_message_NormalPath (s1 : Bs) (r : (Bs × Int)) (H : m_message_NormalPath s1 = some r) : Fn Tryz.prog 42 [vstr s1] (resOf [vstr r.1, vint r.2]) := by
  refine ⟨by kernel_rfl, pure_of (us := [vstr r.1, vint r.2]) Tryz.func42 rfl rfl rfl rfl fun X hN => ?_⟩
  unfold m_message_NormalPath at H
  refine awp_seq ?_
  refine awp_plain hN rfl ?_
  refine seq_run0 (stp_assign (.dat _) rfl) ?_
  refine seq_run0 (stp_assign (.dat _) rfl) ?_
  refine awp_seq ?_
  refine awp_seq ?_
  refine awp_plain hN rfl ?_
  refine seq_run0 (stp_move (.dat _) rfl) ?_
  obtain ⟨r2, h3, H⟩ := bnd H
  refine seq_run0 (stp_call (k_message_PathFault s1 r2 h3) ⟨.inl rfl, trivial⟩) ?_
  refine seq_run0 (stp_assign (.dat _) rfl) ?_
  refine awp_seq ?_
  refine awp_plain hN rfl ?_
  refine seq_run0 (stp_move (.dat _) rfl) ?_
  refine seq_run0 (stp_neq rfl rfl) ?_
  refine awp_cond _ rfl (fun h4 => ?_) (fun h4 => ?_)
  · replace H := ift h4 H
    refine awp_seq ?_
    refine awp_plain hN rfl ?_
    refine seq_run0 (stp_move (.dat _) rfl) ?_
    refine seq_run0 (stp_assign (.dat _) rfl) ?_
    refine seq_run0 (stp_assign (.dat _) rfl) ?_
    refine awp_ret ?_
    cases H
    exact ⟨trivial, .inl rfl, .inl rfl, trivial⟩
  · replace H := iff_ h4 H
    refine awp_skip ?_
    refine awp_seq ?_
    refine awp_plain hN rfl ?_
    refine seq_run0 (stp_move (.dat _) rfl) ?_
    obtain ⟨r5, h6, H⟩ := bnd H
    refine seq_run0 (stp_call (k_message_normalUnits s1 r5 h6) ⟨.inl rfl, trivial⟩) ?_
    refine seq_run0 (stp_move (.dat _) rfl) ?_
    refine seq_run0 (stp_ext rfl rfl) ?_
    refine seq_run0 (stp_ext rfl rfl) ?_
    refine seq_run0 (stp_assign (.dat _) rfl) ?_
    refine seq_run0 (stp_assign (.dat _) rfl) ?_
    refine awp_seq ?_
    refine awp_seq ?_
    refine awp_plain hN rfl ?_
    refine seq_run0 (stp_move (.dat _) rfl) ?_
    refine seq_run0 (stp_not rfl) ?_
    refine awp_cond _ rfl (fun h7 => ?_) (fun h7 => ?_)
    · replace H := ift h7 H
      refine awp_seq ?_
      refine awp_plain hN rfl ?_
      refine seq_run0 (stp_assign (.dat _) rfl) ?_
      refine seq_run0 (stp_assign (.dat _) rfl) ?_
      refine awp_ret ?_
      cases H
      exact ⟨trivial, .inl rfl, .inl rfl, trivial⟩
    · replace H := iff_ h7 H
      refine awp_skip ?_
      refine awp_seq ?_
      refine awp_plain hN rfl ?_
      refine seq_run0 (stp_assign (.dat _) rfl) ?_
      refine awp_seq ?_
      refine awp_plain hN rfl ?_
      refine seq_run0 (stp_move (.dat _) rfl) ?_
      obtain ⟨l8, h9, H⟩ := bnd H
      refine seq_run0 (t_subS tyU9 rfl rfl rfl h9) ?_
      obtain ⟨r10, h11, H⟩ := bnd H
      refine seq_run0 (stp_call (k_strings_Split l8 [47] r10 h11) ⟨.inl rfl, .inl rfl, trivial⟩) ?_
      refine seq_run0 (stp_assign (.dat _) rfl) ?_
      refine awp_seq ?_
      refine awp_seq ?_
      refine awp_plain hN rfl ?_
      refine seq_run0 (stp_move (.dat _) rfl) ?_
      refine seq_run0 (t_len tyU87 rfl) ?_
      refine seq_run0 (stp_move (.dat _) rfl) ?_
      refine awp_block ?_
      refine awp_nilrow 6 1 9 1 rfl rfl rfl ?_
      obtain ⟨h15, H⟩ := gif H
      refine awp_forL (fun (k13 : Nat) (s : (List Bs)) => [(6, .row 1 s.length), (7, .dat (vlst (List.map C_string r10))), (25, .dat (vlst (List.map C_string r10))), (26, .dat (vint (r10.length : Int))), (27, .dat (vint (k13 : Int)))]) (fun (k13 : Nat) (s : (List Bs)) => [(1, .row 9 1 (List.map C_string s))]) [] H ⟨congrArg (Slot.row 1) (by simp), rfl, rfl, rfl, rfl, trivial⟩ ⟨rfl, trivial⟩ (fun _ _ => rfl) ?_ ?_
      · rintro l12 H
        replace H : message_NormalPath_E1 l12 = some r := H
        unfold message_NormalPath_E1 at H
        refine awp_seq ?_
        refine awp_plain hN rfl ?_
        refine seq_run0 (stp_lss rfl rfl) ?_
        refine awp_seq ?_
        refine awp_cond _ rfl (fun h => (lt_t h).elim) (fun h => ?_)
        refine awp_exit ?_
        refine awp_seq ?_
        refine t_freeze 6 1 rfl rfl rfl ?_
        refine awp_plain hN rfl ?_
        refine seq_run0 (stp_move (.dat _) rfl) ?_
        obtain ⟨r17, h18, H⟩ := bnd H
        refine seq_run0 (stp_call (k_strings_Join l12 [47] r17 h18) ⟨.inl rfl, .inl rfl, trivial⟩) ?_
        obtain ⟨h19, H⟩ := gif H
        refine seq_run0 (stp_sadd rfl rfl (Nat.le_trans h19 (by decide))) ?_
        refine seq_run0 (stp_assign (.dat _) rfl) ?_
        refine seq_run0 (stp_assign (.dat _) rfl) ?_
        refine awp_ret ?_
        cases H
        exact ⟨trivial, .inl rfl, .inl rfl, trivial⟩
      · rintro k13 x16 l12 q14 h20 h21 H hq14
        replace H : message_NormalPath_L1 r10 k13 x16 l12 = some q14 := H
        unfold message_NormalPath_L1 at H
        refine awp_cv ?_
        refine awp_seq ?_
        refine awp_plain hN rfl ?_
        refine seq_run0 (stp_lss rfl rfl) ?_
        refine awp_seq ?_
        refine awp_cond _ rfl (fun h => ?_) (fun h => (lt_f h20 h).elim)
        refine awp_skip ?_
        refine awp_joinE (ι := (List Bs)) (fun i => [(6, .row 4 i.length), (7, .dat (vlst (List.map C_string r10))), (25, .dat (vlst (List.map C_string r10))), (26, .dat (vint (r10.length : Int))), (27, .dat (vint (k13 : Int)))]) (fun i => [(4, .row 9 1 (List.map C_string i))]) (fun i => message_NormalPath_J2 i = some q14) (fun i => rfl) ?_ ?_
        · refine awp_cv ?_
          refine awp_block ?_
          refine awp_seq ?_
          refine awp_plain hN rfl ?_
          refine seq_run0 (stp_move (.dat _) rfl) ?_
          refine seq_run0 (t_idx tyE87 (fun _ => rfl) rfl rfl h21) ?_
          refine seq_run0 (stp_loadE1 tyS9 rfl (map_at h21) rfl) ?_
          refine seq_run0 (stp_assign (.dat _) rfl) ?_
          refine seq_run0 (stp_assign (.dat _) rfl) ?_
          refine awp_joinE (ι := (List Bs)) (fun i => [(6, .row 3 i.length), (7, .dat (vlst (List.map C_string r10))), (8, .dat (vint (k13 : Int))), (25, .dat (vlst (List.map C_string r10))), (26, .dat (vint (r10.length : Int))), (27, .dat (vint (k13 : Int)))]) (fun i => [(3, .row 9 1 (List.map C_string i))]) (fun i => message_NormalPath_J3 r10 k13 i = some q14) (fun i => rfl) ?_ ?_
          · refine awp_cv ?_
            refine awp_seq ?_
            refine awp_plain hN rfl ?_
            refine seq_run0 (stp_move (.dat _) rfl) ?_
            refine awp_block ?_
            refine awp_seq ?_
            refine awp_plain hN rfl ?_
            refine seq_run0 (stp_seql rfl rfl) ?_
            refine seq_run0 (stp_assign (.dat _) rfl) ?_
            refine awp_cond _ rfl (fun h22 => ?_) (fun h22 => ?_)
            · replace H := ift h22 H
              refine awp_skip ?_
              show Cv _ _ _ _
              refine cv_ren (rn [(1, 3)]) [(6, .row 1 l12.length), (7, .dat (vlst (List.map C_string r10))), (8, .dat (vint (k13 : Int))), (25, .dat (vlst (List.map C_string r10))), (26, .dat (vint (r10.length : Int))), (27, .dat (vint (k13 : Int)))] [(1, .row 9 1 (List.map C_string l12))] ⟨rfl, rfl, rfl, rfl, rfl, rfl, trivial⟩ ⟨rfl, trivial⟩ rfl rfl ?_
              exact ⟨l12, H, ⟨rfl, rfl, rfl, rfl, rfl, rfl, trivial⟩, ⟨rfl, trivial⟩⟩
            · replace H := iff_ h22 H
              refine awp_seq ?_
              refine awp_plain hN rfl ?_
              refine seq_run0 (stp_seql rfl rfl) ?_
              refine seq_run0 (stp_assign (.dat _) rfl) ?_
              refine awp_cond _ rfl (fun h23 => ?_) (fun h23 => ?_)
              · replace H := ift h23 H
                refine awp_plain hN rfl ?_
                refine seq_run0 (stp_move (.row _ _) rfl) ?_
                refine seq_run0 (stp_move (.row _ _) rfl) ?_
                refine seq_run1 (t_lenR tyU87 rfl rfl) rfl ?_
                refine seq_run0 (stp_wrap _ rfl rfl (.inr (.inl ⟨rfl, rfl⟩))) ?_
                refine seq_run0 (stp_max rfl rfl) ?_
                obtain ⟨h24, H⟩ := gif H
                refine seq_run3 (t_cut (C := C_string) 2 tyE87 rfl rfl rfl h24) rfl rfl ?_
                refine seq_run0 (stp_assign (.row _ _) rfl) ?_
                refine seq_end ?_
                show Cv _ _ _ _
                refine cv_ren (rn [(2, 3)]) [(6, .row 2 ((max (wr ((l12.length : Int) - 1)) 0).toNat)), (7, .dat (vlst (List.map C_string r10))), (8, .dat (vint (k13 : Int))), (25, .dat (vlst (List.map C_string r10))), (26, .dat (vint (r10.length : Int))), (27, .dat (vint (k13 : Int)))] [(2, .row 9 1 (List.map C_string (l12.take (max (wr ((l12.length : Int) - 1)) 0).toNat)))] ⟨rfl, rfl, rfl, rfl, rfl, rfl, trivial⟩ ⟨rfl, trivial⟩ rfl rfl ?_
                exact ⟨(l12.take (max (wr ((l12.length : Int) - 1)) 0).toNat), H, ⟨congrArg (Slot.row 3) ((cut_len h24)).symm, rfl, rfl, rfl, rfl, rfl, trivial⟩, ⟨rfl, trivial⟩⟩
              · replace H := iff_ h23 H
                refine awp_seq ?_
                refine awp_plain hN rfl ?_
                refine seq_run0 (stp_move (.row _ _) rfl) ?_
                refine seq_run0 (stp_move (.dat _) rfl) ?_
                refine seq_run0 (stp_dat (u' := vlst (List.map C_string [x16])) (stp_lit [[_]] tyL87 ⟨rfl, .inl ⟨_, rfl, rfl, rfl⟩, rfl, trivial⟩ rfl rfl) rfl) ?_
                obtain ⟨h25, H⟩ := gif H
                refine seq_run2 (t_app tyL87 (fun _ => rfl) rfl rfl rfl ⟨by simp, by simpa using h25⟩ rfl) rfl ?_
                refine seq_run0 (stp_assign (.row _ _) rfl) ?_
                refine awp_exit ?_
                show Cv _ _ _ _
                refine cv_in ?_
                show Cv _ _ _ _
                refine cv_ren (rn [(1, 4)]) [(6, .row 1 ((l12 ++ [x16]).length)), (7, .dat (vlst (List.map C_string r10))), (25, .dat (vlst (List.map C_string r10))), (26, .dat (vint (r10.length : Int))), (27, .dat (vint (k13 : Int)))] [(1, .row 9 1 (List.map C_string (l12 ++ [x16])))] ⟨rfl, rfl, rfl, rfl, rfl, trivial⟩ ⟨rfl, trivial⟩ rfl rfl ?_
                exact ⟨(l12 ++ [x16]), H, ⟨rfl, rfl, rfl, rfl, rfl, trivial⟩, ⟨rfl, trivial⟩⟩
          · rintro out26 H
            replace H : message_NormalPath_J3 r10 k13 out26 = some q14 := H
            unfold message_NormalPath_J3 at H
            refine awp_seq ?_
            refine awp_plain hN rfl ?_
            refine seq_run0 (stp_move (.dat _) rfl) ?_
            refine seq_run0 (stp_move (.dat _) rfl) ?_
            refine seq_run0 (t_len tyU87 rfl) ?_
            refine seq_run0 (stp_wrap _ rfl rfl (.inr (.inl ⟨rfl, rfl⟩))) ?_
            refine seq_run0 (stp_eql rfl rfl) ?_
            refine awp_cond _ rfl (fun h27 => ?_) (fun h27 => ?_)
            · replace H := ift h27 H
              refine awp_plain hN rfl ?_
              refine seq_run0 (stp_move (.row _ _) rfl) ?_
              refine seq_run0 (stp_dat (u' := vlst (List.map C_string [[]])) (stp_lit [[_]] tyL87 ⟨rfl, .inl ⟨_, rfl, rfl, rfl⟩, rfl, trivial⟩ rfl rfl) rfl) ?_
              obtain ⟨h28, H⟩ := gif H
              refine seq_run2 (t_app tyL87 (fun _ => rfl) rfl rfl rfl ⟨by simp, by simpa using h28⟩ rfl) rfl ?_
              refine seq_run0 (stp_assign (.row _ _) rfl) ?_
              refine seq_end ?_
              show Cv _ _ _ _
              refine cv_ren (rn [(3, 4)]) [(6, .row 3 ((out26 ++ ([[]])).length)), (7, .dat (vlst (List.map C_string r10))), (25, .dat (vlst (List.map C_string r10))), (26, .dat (vint (r10.length : Int))), (27, .dat (vint (k13 : Int)))] [(3, .row 9 1 (List.map C_string (out26 ++ ([[]]))))] ⟨rfl, rfl, rfl, rfl, rfl, trivial⟩ ⟨rfl, trivial⟩ rfl rfl ?_
              exact ⟨(out26 ++ ([[]])), H, ⟨rfl, rfl, rfl, rfl, rfl, trivial⟩, ⟨rfl, trivial⟩⟩
            · replace H := iff_ h27 H
              refine awp_skip ?_
              show Cv _ _ _ _
              refine cv_ren (rn [(3, 4)]) [(6, .row 3 out26.length), (7, .dat (vlst (List.map C_string r10))), (25, .dat (vlst (List.map C_string r10))), (26, .dat (vint (r10.length : Int))), (27, .dat (vint (k13 : Int)))] [(3, .row 9 1 (List.map C_string out26))] ⟨rfl, rfl, rfl, rfl, rfl, trivial⟩ ⟨rfl, trivial⟩ rfl rfl ?_
              exact ⟨out26, H, ⟨rfl, rfl, rfl, rfl, rfl, trivial⟩, ⟨rfl, trivial⟩⟩
        · rintro out29 H
          replace H : message_NormalPath_J2 out29 = some q14 := H
          unfold message_NormalPath_J2 at H
          refine awp_plain hN rfl ?_
          refine seq_run0 (stp_add rfl rfl (by omega)) ?_
          refine seq_run0 (stp_move (.dat _) rfl) ?_
          refine seq_end ?_
          show Cv _ _ _ _
          refine cv_ren (rn [(4, 1)]) [(6, .row 4 out29.length), (7, .dat (vlst (List.map C_string r10))), (25, .dat (vlst (List.map C_string r10))), (26, .dat (vint (r10.length : Int))), (27, .dat (vint ((k13 : Int) + 1)))] [(4, .row 9 1 (List.map C_string out29))] ⟨rfl, rfl, rfl, rfl, rfl, trivial⟩ ⟨rfl, trivial⟩ rfl rfl ?_
          exact ⟨_, backl H, ⟨rfl, rfl, rfl, rfl, rfl, trivial⟩, ⟨rfl, trivial⟩⟩
theorem k_gatelaw2_spoken  (r : (Bool)) (H : m_gatelaw2_spoken  = some r) : Fn Tryz.prog 12 [] (resOf [vbool r]) := by
  refine ⟨by kernel_rfl, pure_of (us := [vbool r]) Tryz.func12 rfl rfl rfl rfl fun X hN => ?_⟩
  unfold m_gatelaw2_spoken at H
  refine awp_seq ?_
  refine awp_plain hN rfl ?_
  refine seq_run0 (stp_assign (.dat _) rfl) ?_
  refine awp_seq ?_
  refine awp_plain hN rfl ?_
  obtain ⟨r1, h2, H⟩ := bnd H
  refine seq_run0 (stp_call (k_message_NormalPath [47, 97, 47, 46, 46, 47, 98] r1 h2) ⟨.inl rfl, trivial⟩) ?_
  refine seq_run0 (stp_move (.dat _) rfl) ?_
  refine seq_run0 (stp_ext rfl rfl) ?_
  refine seq_run0 (stp_ext rfl rfl) ?_
  refine seq_run0 (stp_assign (.dat _) rfl) ?_
  refine seq_run0 (stp_assign (.dat _) rfl) ?_
  refine awp_seq ?_
  refine awp_plain hN rfl ?_
  refine seq_run0 (stp_move (.dat _) rfl) ?_
  refine seq_run0 (stp_eql rfl rfl) ?_
  refine seq_run0 (stp_move (.dat _) rfl) ?_
  refine seq_aT rfl rfl (fun hc => stp_move (.dat _) rfl) ?_
  refine seq_aT rfl rfl (fun hc => stp_seql (cnd (c := (decide (r1.2 = 0))) hc) rfl) ?_
  refine seq_run0 (stp_pick_and rfl (fun hb => (cnd (c := (decide (r1.2 = 0))) hb)) rfl) ?_
  refine seq_run0 (stp_assign (.dat _) rfl) ?_
  refine awp_ret ?_
  cases H
  exact ⟨trivial, .inl rfl, trivial⟩
theorem k_gatelaw2_MessagesWritten (l1 : (List Int)) (r : (Bool)) (H : m_gatelaw2_MessagesWritten l1 = some r) : Fn Tryz.prog 3 [vlst (List.map C_int l1)] (resOf [vbool r]) := by
  refine ⟨by kernel_rfl, pure_of (us := [vbool r]) Tryz.func3 rfl rfl rfl rfl fun X hN => ?_⟩
  unfold m_gatelaw2_MessagesWritten at H
  refine awp_seq ?_
  refine awp_plain hN rfl ?_
  refine seq_run0 (stp_assign (.dat _) rfl) ?_
  refine awp_seq ?_
  refine awp_plain hN rfl ?_
  refine seq_run0 (stp_move (.dat _) rfl) ?_
  refine seq_run0 (stp_dat (u' := vagg (C_gatemake_Stream (S_gatemake_Stream.mk l1 0))) (stp_build [(0, [vlst (List.map C_int l1)])] tyZ25 tyP25 rfl ⟨rfl, .inl ⟨_, rfl, rfl, rfl⟩, rfl, trivial⟩) rfl) ?_
  refine seq_run2 (stp_boxA 1 rfl) rfl ?_
  refine seq_run0 (stp_assign (.ptr _ _) rfl) ?_
  refine awp_seq ?_
  refine awp_plain hN rfl ?_
  refine seq_run0 (stp_move (.ptr _ _) rfl) ?_
  obtain ⟨r2, h3, H⟩ := bnd H
  refine seq_run2 (stp_imp (k_gatemake_Stream_Request (S_gatemake_Stream.mk l1 0) r2 h3) rfl trivial rfl) rfl ?_
  refine seq_run0 (stp_move (.ptr _ _) rfl) ?_
  obtain ⟨r4, h5, H⟩ := bnd H
  refine seq_run2 (stp_imp (k_gatemake_Stream_Response r2.2 r4 h5) rfl trivial rfl) rfl ?_
  refine seq_run2 (stp_alloc 2 tyZ28 rfl) rfl ?_
  refine seq_run2 (stp_alloc 3 tyZ31 rfl) rfl ?_
  refine seq_run2 (stp_storeW tyS28 rfl rfl rfl rfl) rfl ?_
  refine seq_run2 (stp_storeW tyS31 rfl rfl rfl rfl) rfl ?_
  refine awp_seq ?_
  refine awp_plain hN rfl ?_
  refine seq_run1 (stp_loadA tyS28 rfl rfl rfl) rfl ?_
  obtain ⟨r6, h7, H⟩ := bnd H
  refine seq_run0 (stp_call (k_message_WriteRequest (S_api_Request.mk r2.1.At r2.1.Method r2.1.Host r2.1.Path r2.1.Query r2.1.From r2.1.Headers r2.1.Body) r6 h7) ⟨.inl rfl, trivial⟩) ?_
  refine seq_run0 (stp_move (.dat _) rfl) ?_
  refine seq_run0 (stp_ext rfl rfl) ?_
  refine seq_run0 (stp_ext rfl rfl) ?_
  refine seq_run0 (stp_assign (.dat _) rfl) ?_
  refine seq_run0 (stp_assign (.dat _) rfl) ?_
  refine awp_seq ?_
  refine awp_plain hN rfl ?_
  refine seq_run1 (stp_loadA tyS31 rfl rfl rfl) rfl ?_
  obtain ⟨r8, h9, H⟩ := bnd H
  refine seq_run0 (stp_call (k_message_WriteResponse r4.1 r8 h9) ⟨.inl rfl, trivial⟩) ?_
  refine seq_run0 (stp_move (.dat _) rfl) ?_
  refine seq_run0 (stp_ext rfl rfl) ?_
  refine seq_run0 (stp_ext rfl rfl) ?_
  refine seq_run0 (stp_assign (.dat _) rfl) ?_
  refine seq_run0 (stp_assign (.dat _) rfl) ?_
  refine awp_seq ?_
  refine awp_plain hN rfl ?_
  refine seq_run0 (stp_assign (.dat _) rfl) ?_
  refine seq_run0 (stp_assign (.dat _) rfl) ?_
  refine awp_joinE (ι := Bs) (fun i => [(4, .ptr 2 0), (5, .ptr 3 0), (6, .dat (vstr r6.1)), (7, .dat (vint r6.2)), (8, .dat (vstr r8.1)), (9, .dat (vint r8.2)), (10, .dat (vstr i)), (11, .dat (vstr []))]) (fun i => [(2, .box none 28 [.dat (vint r2.1.At), .dat (vstr r2.1.Method), .dat (vstr r2.1.Host), .dat (vstr r2.1.Path), .dat (vstr r2.1.Query), .dat (vstr r2.1.From), .dat (vlst (List.map C_api_Header r2.1.Headers)), .dat (vstr r2.1.Body)]), (3, .box none 31 [.dat (vint r4.1.Status), .dat (vlst (List.map C_api_Header r4.1.Headers)), .dat (vstr r4.1.Body)])]) (fun i => gatelaw2_MessagesWritten_J1 r2 r4 r6 r8 i = some r) (fun i => rfl) ?_ ?_
  · skip
    refine awp_seq ?_
    refine awp_plain hN rfl ?_
    refine seq_run1 (stp_loadA tyS28 rfl rfl rfl) rfl ?_
    obtain ⟨r10, h11, H⟩ := bnd H
    refine seq_run0 (stp_call (k_gateref2_RequestFault (S_api_Request.mk r2.1.At r2.1.Method r2.1.Host r2.1.Path r2.1.Query r2.1.From r2.1.Headers r2.1.Body) r10 h11) ⟨.inl rfl, trivial⟩) ?_
    refine seq_run0 (stp_eql rfl rfl) ?_
    refine awp_cond _ rfl (fun h12 => ?_) (fun h12 => ?_)
    · replace H := ift h12 H
      refine awp_plain hN rfl ?_
      refine seq_run1 (stp_loadA tyS28 rfl rfl rfl) rfl ?_
      obtain ⟨r13, h14, H⟩ := bnd H
      refine seq_run0 (stp_call (k_gateref2_RequestBytes (S_api_Request.mk r2.1.At r2.1.Method r2.1.Host r2.1.Path r2.1.Query r2.1.From r2.1.Headers r2.1.Body) r13 h14) ⟨.inl rfl, trivial⟩) ?_
      refine seq_run0 (stp_assign (.dat _) rfl) ?_
      exact ⟨r13, H, ⟨rfl, rfl, rfl, rfl, rfl, rfl, rfl, rfl, trivial⟩, ⟨rfl, rfl, trivial⟩⟩
    · replace H := iff_ h12 H
      refine awp_skip ?_
      exact ⟨[], H, ⟨rfl, rfl, rfl, rfl, rfl, rfl, rfl, rfl, trivial⟩, ⟨rfl, rfl, trivial⟩⟩
  · rintro wx15 H
    replace H : gatelaw2_MessagesWritten_J1 r2 r4 r6 r8 wx15 = some r := H
    unfold gatelaw2_MessagesWritten_J1 at H
    refine awp_joinE (ι := Bs) (fun i => [(4, .ptr 2 0), (5, .ptr 3 0), (6, .dat (vstr r6.1)), (7, .dat (vint r6.2)), (8, .dat (vstr r8.1)), (9, .dat (vint r8.2)), (10, .dat (vstr wx15)), (11, .dat (vstr i))]) (fun i => [(2, .box none 28 [.dat (vint r2.1.At), .dat (vstr r2.1.Method), .dat (vstr r2.1.Host), .dat (vstr r2.1.Path), .dat (vstr r2.1.Query), .dat (vstr r2.1.From), .dat (vlst (List.map C_api_Header r2.1.Headers)), .dat (vstr r2.1.Body)]), (3, .box none 31 [.dat (vint r4.1.Status), .dat (vlst (List.map C_api_Header r4.1.Headers)), .dat (vstr r4.1.Body)])]) (fun i => gatelaw2_MessagesWritten_J2 r2 r4 r6 r8 wx15 i = some r) (fun i => rfl) ?_ ?_
    · skip
      refine awp_seq ?_
      refine awp_plain hN rfl ?_
      refine seq_run1 (stp_loadA tyS31 rfl rfl rfl) rfl ?_
      obtain ⟨r16, h17, H⟩ := bnd H
      refine seq_run0 (stp_call (k_gateref2_ResponseFault r4.1 r16 h17) ⟨.inl rfl, trivial⟩) ?_
      refine seq_run0 (stp_eql rfl rfl) ?_
      refine awp_cond _ rfl (fun h18 => ?_) (fun h18 => ?_)
      · replace H := ift h18 H
        refine awp_plain hN rfl ?_
        refine seq_run1 (stp_loadA tyS31 rfl rfl rfl) rfl ?_
        obtain ⟨r19, h20, H⟩ := bnd H
        refine seq_run0 (stp_call (k_gateref2_ResponseBytes r4.1 r19 h20) ⟨.inl rfl, trivial⟩) ?_
        refine seq_run0 (stp_assign (.dat _) rfl) ?_
        exact ⟨r19, H, ⟨rfl, rfl, rfl, rfl, rfl, rfl, rfl, rfl, trivial⟩, ⟨rfl, rfl, trivial⟩⟩
      · replace H := iff_ h18 H
        refine awp_skip ?_
        exact ⟨[], H, ⟨rfl, rfl, rfl, rfl, rfl, rfl, rfl, rfl, trivial⟩, ⟨rfl, rfl, trivial⟩⟩
    · rintro wy21 H
      replace H : gatelaw2_MessagesWritten_J2 r2 r4 r6 r8 wx15 wy21 = some r := H
      unfold gatelaw2_MessagesWritten_J2 at H
      refine awp_joinE (ι := Bool) (fun i => [(2, .dat (vbool i))]) (fun i => []) (fun i => gatelaw2_MessagesWritten_J3 i = some r) (fun i => rfl) ?_ ?_
      · skip
        refine awp_plain hN rfl ?_
        refine seq_run0 (stp_move (.dat _) rfl) ?_
        refine seq_run0 (stp_move (.dat _) rfl) ?_
        refine seq_run0 (stp_seql rfl rfl) ?_
        refine seq_run0 (stp_move (.dat _) rfl) ?_
        refine seq_split (j := 3) rfl rfl (fun h22 => ?_) (fun h22 => ?_) rfl
        · have h23 := un1 h22
          replace H := ift h23 H
          refine seq_g0 rfl rfl h22 (stp_move (.dat _) rfl) ?_
          refine seq_g1 rfl rfl h22 (stp_loadA tyS28 rfl rfl rfl) rfl ?_
          obtain ⟨r24, h25, H⟩ := bnd H
          refine seq_g0 rfl rfl h22 (stp_call (k_gateref2_RequestFault (S_api_Request.mk r2.1.At r2.1.Method r2.1.Host r2.1.Path r2.1.Query r2.1.From r2.1.Headers r2.1.Body) r24 h25) ⟨.inl rfl, trivial⟩) ?_
          refine seq_g0 rfl rfl h22 (stp_eql rfl rfl) ?_
          refine seq_run0 (stp_pick_t rfl (bTT h23) rfl) ?_
          refine seq_run0 (stp_move (.dat _) rfl) ?_
          refine seq_split (j := 9) rfl rfl (fun h26 => ?_) (fun h26 => ?_) rfl
          · have h27 := un1 h26
            replace H := ift h27 H
            refine seq_g0 rfl rfl h26 (stp_move (.dat _) rfl) ?_
            refine seq_g0 rfl rfl h26 (stp_move (.dat _) rfl) ?_
            refine seq_g0 rfl rfl h26 (stp_seql rfl rfl) ?_
            refine seq_run0 (stp_pick_t rfl (bTT h27) rfl) ?_
            refine seq_run0 (stp_move (.dat _) rfl) ?_
            refine seq_split (j := 14) rfl rfl (fun h28 => ?_) (fun h28 => ?_) rfl
            · have h29 := un1 h28
              replace H := ift h29 H
              refine seq_g0 rfl rfl h28 (stp_move (.dat _) rfl) ?_
              refine seq_g1 rfl rfl h28 (stp_loadA tyS31 rfl rfl rfl) rfl ?_
              obtain ⟨r30, h31, H⟩ := bnd H
              refine seq_g0 rfl rfl h28 (stp_call (k_gateref2_ResponseFault r4.1 r30 h31) ⟨.inl rfl, trivial⟩) ?_
              refine seq_g0 rfl rfl h28 (stp_eql rfl rfl) ?_
              refine seq_run0 (stp_pick_t rfl (bTT h29) rfl) ?_
              refine seq_run0 (stp_move (.dat _) rfl) ?_
              refine seq_split (j := 20) rfl rfl (fun h32 => ?_) (fun h32 => ?_) rfl
              · have h33 := un1 h32
                replace H := ift h33 H
                obtain ⟨r34, h35, H⟩ := bnd H
                refine seq_g0 rfl rfl h32 (stp_call (k_gatelaw2_spoken  r34 h35) trivial) ?_
                refine seq_run0 (stp_pick_t rfl (bTT h33) rfl) ?_
                refine seq_run0 (stp_assign (.dat _) rfl) ?_
                exact ⟨r34, H, ⟨rfl, trivial⟩, trivial⟩
              · have h36 := un2 h32
                replace H := iff_ h36 H
                refine seq_skip rfl rfl h32 ?_
                refine seq_run0 (stp_pick_f rfl (bFF h36) rfl) ?_
                refine seq_run0 (stp_assign (.dat _) rfl) ?_
                exact ⟨false, H, ⟨rfl, trivial⟩, trivial⟩
            · have h37 := un2 h28
              replace H := iff_ h37 H
              refine seq_skip rfl rfl h28 ?_
              refine seq_skip rfl rfl h28 ?_
              refine seq_skip rfl rfl h28 ?_
              refine seq_skip rfl rfl h28 ?_
              refine seq_run0 (stp_pick_f rfl (bFF h37) rfl) ?_
              refine seq_run0 (stp_move (.dat _) rfl) ?_
              refine seq_skip rfl rfl rfl ?_
              refine seq_run0 (stp_pick_f rfl rfl rfl) ?_
              refine seq_run0 (stp_assign (.dat _) rfl) ?_
              exact ⟨false, H, ⟨rfl, trivial⟩, trivial⟩
          · have h38 := un2 h26
            replace H := iff_ h38 H
            refine seq_skip rfl rfl h26 ?_
            refine seq_skip rfl rfl h26 ?_
            refine seq_skip rfl rfl h26 ?_
            refine seq_run0 (stp_pick_f rfl (bFF h38) rfl) ?_
            refine seq_run0 (stp_move (.dat _) rfl) ?_
            refine seq_skip rfl rfl rfl ?_
            refine seq_skip rfl rfl rfl ?_
            refine seq_skip rfl rfl rfl ?_
            refine seq_skip rfl rfl rfl ?_
            refine seq_run0 (stp_pick_f rfl rfl rfl) ?_
            refine seq_run0 (stp_move (.dat _) rfl) ?_
            refine seq_skip rfl rfl rfl ?_
            refine seq_run0 (stp_pick_f rfl rfl rfl) ?_
            refine seq_run0 (stp_assign (.dat _) rfl) ?_
            exact ⟨false, H, ⟨rfl, trivial⟩, trivial⟩
        · have h39 := un2 h22
          replace H := iff_ h39 H
          refine seq_skip rfl rfl h22 ?_
          refine seq_skip rfl rfl h22 ?_
          refine seq_skip rfl rfl h22 ?_
          refine seq_skip rfl rfl h22 ?_
          refine seq_run0 (stp_pick_f rfl (bFF h39) rfl) ?_
          refine seq_run0 (stp_move (.dat _) rfl) ?_
          refine seq_skip rfl rfl rfl ?_
          refine seq_skip rfl rfl rfl ?_
          refine seq_skip rfl rfl rfl ?_
          refine seq_run0 (stp_pick_f rfl rfl rfl) ?_
          refine seq_run0 (stp_move (.dat _) rfl) ?_
          refine seq_skip rfl rfl rfl ?_
          refine seq_skip rfl rfl rfl ?_
          refine seq_skip rfl rfl rfl ?_
          refine seq_skip rfl rfl rfl ?_
          refine seq_run0 (stp_pick_f rfl rfl rfl) ?_
          refine seq_run0 (stp_move (.dat _) rfl) ?_
          refine seq_skip rfl rfl rfl ?_
          refine seq_run0 (stp_pick_f rfl rfl rfl) ?_
          refine seq_run0 (stp_assign (.dat _) rfl) ?_
          exact ⟨false, H, ⟨rfl, trivial⟩, trivial⟩
      · rintro v40 H
        replace H : gatelaw2_MessagesWritten_J3 v40 = some r := H
        unfold gatelaw2_MessagesWritten_J3 at H
        refine awp_ret ?_
        cases H
        exact ⟨trivial, .inl rfl, trivial⟩
end Go.Proofs.YtodipncpfipjnaaGreatDoor
