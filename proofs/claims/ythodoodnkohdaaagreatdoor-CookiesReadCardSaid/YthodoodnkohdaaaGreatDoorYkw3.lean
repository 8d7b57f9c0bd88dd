/- Walks along the models. Printed by a program. -/
import Derived.Test.YthodoodnkohdaaaGreatDoorYkw2
namespace Go.Proofs.YthodoodnkohdaaaGreatDoor
open Go.RowKit
set_option linter.unusedVariables false
set_option maxRecDepth 20000
theorem k_gateref2_HostOf (v1 : Bs) (r : (Bs × Int)) (H : m_gateref2_HostOf v1 = some r) : Fn Tryz.prog 45 [vstr v1] (resOf [vstr r.1, vint r.2]) := by
  refine ⟨by kernel_rfl, pure_of (us := [vstr r.1, vint r.2]) Tryz.func45 rfl rfl rfl rfl fun X hN => ?_⟩
  unfold m_gateref2_HostOf at H
  refine awp_seq ?_
  refine awp_plain hN rfl ?_
  refine seq_run0 (stp_assign (.dat _) rfl) ?_
  refine seq_run0 (stp_assign (.dat _) rfl) ?_
  refine awp_seq ?_
  refine awp_plain hN rfl ?_
  refine seq_run0 (stp_move (.dat _) rfl) ?_
  obtain ⟨r2, h3, H⟩ := bnd H
  refine seq_run0 (stp_call (k_strings_Cut v1 [58] r2 h3) ⟨.inl rfl, .inl rfl, trivial⟩) ?_
  refine seq_run0 (stp_move (.dat _) rfl) ?_
  refine seq_run0 (stp_ext rfl rfl) ?_
  refine seq_run0 (stp_ext rfl rfl) ?_
  refine seq_run0 (stp_ext rfl rfl) ?_
  refine seq_run0 (stp_assign (.dat _) rfl) ?_
  refine seq_run0 (stp_assign (.dat _) rfl) ?_
  refine seq_run0 (stp_assign (.dat _) rfl) ?_
  refine awp_seq ?_
  refine awp_plain hN rfl ?_
  refine seq_run0 (stp_move (.dat _) rfl) ?_
  obtain ⟨r4, h5, H⟩ := bnd H
  refine seq_run0 (stp_call (k_gateref2_Number r2.2.1 5 r4 h5) ⟨.inl rfl, .inl rfl, trivial⟩) ?_
  refine seq_run0 (stp_move (.dat _) rfl) ?_
  refine seq_run0 (stp_ext rfl rfl) ?_
  refine seq_run0 (stp_ext rfl rfl) ?_
  refine seq_run0 (stp_assign (.dat _) rfl) ?_
  refine seq_run0 (stp_assign (.dat _) rfl) ?_
  refine awp_seq ?_
  refine awp_joinE (ι := Bool) (fun i => [(4, .dat (vstr r2.1)), (5, .dat (vstr r2.2.1)), (6, .dat (vbool r2.2.2)), (7, .dat (vint r4.1)), (37, .dat (vbool i))]) (fun i => []) (fun i => gateref2_HostOf_J1 r2 r4 i = some r) (fun i => rfl) ?_ ?_
  · skip
    refine awp_plain hN rfl ?_
    refine seq_run0 (stp_move (.dat _) rfl) ?_
    refine seq_run0 (stp_len_str tyU9 rfl) ?_
    refine seq_run0 (stp_gtr rfl rfl) ?_
    refine seq_run0 (stp_move (.dat _) rfl) ?_
    refine seq_split (j := 3) rfl rfl (fun h6 => ?_) (fun h6 => ?_) rfl
    · have h7 := un3 h6
      replace H := iff_ h7 H
      refine seq_g0 rfl rfl h6 (stp_move (.dat _) rfl) ?_
      refine seq_g0 rfl rfl h6 (stp_move (.dat _) rfl) ?_
      refine seq_split (j := 5) rfl rfl (fun h8 => ?_) (fun h8 => ?_) rfl
      · have h9 := un1 h8
        replace H := ift h9 H
        refine seq_g0 rfl rfl h8 (stp_move (.dat _) rfl) ?_
        refine seq_g0 rfl rfl h8 (stp_not rfl) ?_
        refine seq_g0 rfl rfl h8 (stp_move (.dat _) rfl) ?_
        refine seq_split (j := 8) rfl rfl (fun h10 => ?_) (fun h10 => ?_) rfl
        · have h11 := un3 h10
          replace H := iff_ h11 H
          refine seq_g0 rfl rfl h10 (stp_move (.dat _) rfl) ?_
          obtain ⟨r12, h13, H⟩ := bnd H
          refine seq_g0 rfl rfl h10 (stp_call (k_gateref2_in r4.1 1 65535 r12 h13) ⟨.inl rfl, .inl rfl, .inl rfl, trivial⟩) ?_
          refine seq_g0 rfl rfl h10 (stp_not rfl) ?_
          refine seq_g0 rfl rfl h8 (stp_pick_f rfl (bFF h11) rfl) ?_
          refine seq_g0 rfl rfl h6 (stp_pick_t rfl (bTT h9) rfl) ?_
          refine seq_run0 (stp_pick_f rfl (bFF h7) rfl) ?_
          exact ⟨!r12, H, ⟨rfl, rfl, rfl, rfl, rfl, trivial⟩, trivial⟩
        · have h14 := un4 h10
          replace H := ift h14 H
          refine seq_skip rfl rfl h10 ?_
          refine seq_skip rfl rfl h10 ?_
          refine seq_skip rfl rfl h10 ?_
          refine seq_g0 rfl rfl h8 (stp_pick_t rfl (bTT h14) rfl) ?_
          refine seq_g0 rfl rfl h6 (stp_pick_t rfl (bTT h9) rfl) ?_
          refine seq_run0 (stp_pick_f rfl (bFF h7) rfl) ?_
          exact ⟨true, H, ⟨rfl, rfl, rfl, rfl, rfl, trivial⟩, trivial⟩
      · have h15 := un2 h8
        replace H := iff_ h15 H
        refine seq_skip rfl rfl h8 ?_
        refine seq_skip rfl rfl h8 ?_
        refine seq_skip rfl rfl h8 ?_
        refine seq_skipU rfl rfl ?_
        refine seq_skipU rfl rfl ?_
        refine seq_skipU rfl rfl ?_
        refine seq_skip rfl rfl h8 ?_
        refine seq_g0 rfl rfl h6 (stp_pick_f rfl (bFF h15) rfl) ?_
        refine seq_run0 (stp_pick_f rfl (bFF h7) rfl) ?_
        exact ⟨false, H, ⟨rfl, rfl, rfl, rfl, rfl, trivial⟩, trivial⟩
    · have h16 := un4 h6
      replace H := ift h16 H
      refine seq_skip rfl rfl h6 ?_
      refine seq_skip rfl rfl h6 ?_
      refine seq_skipU rfl rfl ?_
      refine seq_skipU rfl rfl ?_
      refine seq_skipU rfl rfl ?_
      refine seq_skipU rfl rfl ?_
      refine seq_skipU rfl rfl ?_
      refine seq_skipU rfl rfl ?_
      refine seq_skipU rfl rfl ?_
      refine seq_skip rfl rfl h6 ?_
      refine seq_run0 (stp_pick_t rfl (bTT h16) rfl) ?_
      exact ⟨true, H, ⟨rfl, rfl, rfl, rfl, rfl, trivial⟩, trivial⟩
  · rintro v17 H
    replace H : gateref2_HostOf_J1 r2 r4 v17 = some r := H
    unfold gateref2_HostOf_J1 at H
    refine awp_cond _ rfl (fun h18 => ?_) (fun h18 => ?_)
    · replace H := ift h18 H
      refine awp_seq ?_
      refine awp_plain hN rfl ?_
      refine seq_run0 (stp_assign (.dat _) rfl) ?_
      refine seq_run0 (stp_assign (.dat _) rfl) ?_
      refine awp_ret ?_
      cases H
      exact ⟨trivial, .inl rfl, .inl rfl, trivial⟩
    · replace H := iff_ h18 H
      refine awp_skip ?_
      refine awp_seq ?_
      refine awp_seq ?_
      refine awp_plain hN rfl ?_
      refine seq_run0 (stp_move (.dat _) rfl) ?_
      obtain ⟨r19, h20, H⟩ := bnd H
      refine seq_run0 (stp_call (k_strings_Split r2.1 [46] r19 h20) ⟨.inl rfl, .inl rfl, trivial⟩) ?_
      refine seq_run0 (t_len tyU60 rfl) ?_
      refine seq_run0 (stp_move (.dat _) rfl) ?_
      refine awp_block ?_
      obtain ⟨h23, H⟩ := gif H
      refine awp_forL (fun (k21 : Nat) (s : Unit) => [(4, .dat (vstr r2.1)), (5, .dat (vstr r2.2.1)), (6, .dat (vbool r2.2.2)), (7, .dat (vint r4.1)), (39, .dat (vlst (List.map C_string r19))), (40, .dat (vint (r19.length : Int))), (41, .dat (vint (k21 : Int)))]) (fun (k21 : Nat) (s : Unit) => []) () H ⟨rfl, rfl, rfl, rfl, rfl, rfl, rfl, trivial⟩ trivial (fun _ _ => rfl) ?_ ?_
      · rintro ⟨⟩ H
        replace H : gateref2_HostOf_E2 r2 r4 = some r := H
        unfold gateref2_HostOf_E2 at H
        refine awp_seq ?_
        refine awp_plain hN rfl ?_
        refine seq_run0 (stp_lss rfl rfl) ?_
        refine awp_seq ?_
        refine awp_cond _ rfl (fun h => (lt_t h).elim) (fun h => ?_)
        refine awp_exit ?_
        refine awp_seq ?_
        refine awp_plain hN rfl ?_
        refine seq_run0 (stp_move (.dat _) rfl) ?_
        obtain ⟨r25, h26, H⟩ := bnd H
        refine seq_run0 (stp_call (k_strings_ToLower r2.1 r25 h26) ⟨.inl rfl, trivial⟩) ?_
        refine seq_run0 (stp_assign (.dat _) rfl) ?_
        refine awp_joinE (ι := Bs) (fun i => [(11, .dat (vstr i))]) (fun i => []) (fun i => gateref2_HostOf_J3 i = some r) (fun i => rfl) ?_ ?_
        · skip
          refine awp_seq ?_
          refine awp_plain hN rfl ?_
          refine seq_run0 (stp_move (.dat _) rfl) ?_
          refine seq_run0 (stp_move (.dat _) rfl) ?_
          refine seq_aT rfl rfl (fun hc => stp_move (.dat _) rfl) ?_
          refine seq_aT rfl rfl (fun hc => stp_neq (cnd (c := r2.2.2) hc) rfl) ?_
          refine seq_run0 (stp_pick_and rfl (fun hb => (cnd (c := r2.2.2) hb)) rfl) ?_
          refine seq_run0 (stp_move (.dat _) rfl) ?_
          refine seq_aT rfl rfl (fun hc => stp_move (.dat _) rfl) ?_
          refine seq_aT rfl rfl (fun hc => stp_neq (cnd (c := (r2.2.2 && (decide (r4.1 ≠ 80)))) hc) rfl) ?_
          refine seq_run0 (stp_pick_and rfl (fun hb => (cnd (c := (r2.2.2 && (decide (r4.1 ≠ 80)))) hb)) rfl) ?_
          refine awp_cond _ rfl (fun h27 => ?_) (fun h27 => ?_)
          · replace H := ift h27 H
            refine awp_plain hN rfl ?_
            refine seq_run0 (stp_move (.dat _) rfl) ?_
            refine seq_run0 (stp_move (.dat _) rfl) ?_
            obtain ⟨h28, H⟩ := gif H
            refine seq_run0 (stp_sadd rfl rfl (Nat.le_trans h28 (by decide))) ?_
            obtain ⟨h29, H⟩ := gif H
            refine seq_run0 (stp_sadd rfl rfl (Nat.le_trans h29 (by decide))) ?_
            refine seq_run0 (stp_assign (.dat _) rfl) ?_
            exact ⟨(r25 ++ ([58] ++ r2.2.1)), H, ⟨rfl, trivial⟩, trivial⟩
          · replace H := iff_ h27 H
            refine awp_skip ?_
            exact ⟨r25, H, ⟨rfl, trivial⟩, trivial⟩
        · rintro v30 H
          replace H : gateref2_HostOf_J3 v30 = some r := H
          unfold gateref2_HostOf_J3 at H
          refine awp_seq ?_
          refine awp_plain hN rfl ?_
          refine seq_run0 (stp_move (.dat _) rfl) ?_
          refine seq_run0 (stp_assign (.dat _) rfl) ?_
          refine seq_run0 (stp_assign (.dat _) rfl) ?_
          refine awp_ret ?_
          cases H
          exact ⟨trivial, .inl rfl, .inl rfl, trivial⟩
      · rintro k21 x24 ⟨⟩ q22 h31 h32 H hq22
        replace H : gateref2_HostOf_L2 k21 x24 = some q22 := H
        unfold gateref2_HostOf_L2 at H
        refine awp_seq ?_
        refine awp_plain hN rfl ?_
        refine seq_run0 (stp_lss rfl rfl) ?_
        refine awp_seq ?_
        refine awp_cond _ rfl (fun h => ?_) (fun h => (lt_f h31 h).elim)
        refine awp_skip ?_
        refine awp_seq ?_
        refine awp_block ?_
        refine awp_seq ?_
        refine awp_plain hN rfl ?_
        refine seq_run0 (t_idx tyE60 (fun _ => rfl) rfl rfl h32) ?_
        refine seq_run0 (stp_loadE1 tyS9 rfl (map_at h32) rfl) ?_
        refine seq_run0 (stp_assign (.dat _) rfl) ?_
        refine awp_joinE (ι := Bool) (fun i => [(4, .dat (vstr r2.1)), (5, .dat (vstr r2.2.1)), (6, .dat (vbool r2.2.2)), (7, .dat (vint r4.1)), (39, .dat (vlst (List.map C_string r19))), (40, .dat (vint (r19.length : Int))), (41, .dat (vint (k21 : Int))), (59, .dat (vbool i))]) (fun i => []) (fun i => gateref2_HostOf_J4 i = some q22) (fun i => rfl) ?_ ?_
        · skip
          refine awp_plain hN rfl ?_
          refine seq_run0 (stp_move (.dat _) rfl) ?_
          refine seq_run0 (stp_len_str tyU9 rfl) ?_
          obtain ⟨r33, h34, H⟩ := bnd H
          refine seq_run0 (stp_call (k_gateref2_in (x24.length : Int) 1 63 r33 h34) ⟨.inl rfl, .inl rfl, .inl rfl, trivial⟩) ?_
          refine seq_run0 (stp_not rfl) ?_
          refine seq_run0 (stp_move (.dat _) rfl) ?_
          refine seq_split (j := 4) rfl rfl (fun h35 => ?_) (fun h35 => ?_) rfl
          · have h36 := un3 h35
            replace H := iff_ h36 H
            refine seq_g0 rfl rfl h35 (stp_move (.dat _) rfl) ?_
            obtain ⟨r37, h38, H⟩ := bnd H
            refine seq_g0 rfl rfl h35 (stp_call (k_gateref2_only x24 [97, 98, 99, 100, 101, 102, 103, 104, 105, 106, 107, 108, 109, 110, 111, 112, 113, 114, 115, 116, 117, 118, 119, 120, 121, 122, 65, 66, 67, 68, 69, 70, 71, 72, 73, 74, 75, 76, 77, 78, 79, 80, 81, 82, 83, 84, 85, 86, 87, 88, 89, 90, 48, 49, 50, 51, 52, 53, 54, 55, 56, 57, 45] r37 h38) ⟨.inl rfl, .inl rfl, trivial⟩) ?_
            refine seq_g0 rfl rfl h35 (stp_not rfl) ?_
            refine seq_run0 (stp_pick_f rfl (bFF h36) rfl) ?_
            refine seq_run0 (stp_move (.dat _) rfl) ?_
            refine seq_split (j := 9) rfl rfl (fun h39 => ?_) (fun h39 => ?_) rfl
            · have h40 := un3 h39
              replace H := iff_ h40 H
              refine seq_g0 rfl rfl h39 (stp_move (.dat _) rfl) ?_
              obtain ⟨r41, h42, H⟩ := bnd H
              refine seq_g0 rfl rfl h39 (stp_call (k_strings_Trim x24 [45] r41 h42) ⟨.inl rfl, .inl rfl, trivial⟩) ?_
              refine seq_g0 rfl rfl h39 (stp_move (.dat _) rfl) ?_
              refine seq_g0 rfl rfl h39 (stp_sneq rfl rfl) ?_
              refine seq_run0 (stp_pick_f rfl (bFF h40) rfl) ?_
              exact ⟨decide (r41 ≠ x24), H, ⟨rfl, rfl, rfl, rfl, rfl, rfl, rfl, rfl, trivial⟩, trivial⟩
            · have h43 := un4 h39
              replace H := ift h43 H
              refine seq_skip rfl rfl h39 ?_
              refine seq_skip rfl rfl h39 ?_
              refine seq_skip rfl rfl h39 ?_
              refine seq_skip rfl rfl h39 ?_
              refine seq_run0 (stp_pick_t rfl (bTT h43) rfl) ?_
              exact ⟨true, H, ⟨rfl, rfl, rfl, rfl, rfl, rfl, rfl, rfl, trivial⟩, trivial⟩
          · have h44 := un4 h35
            replace H := ift h44 H
            refine seq_skip rfl rfl h35 ?_
            refine seq_skip rfl rfl h35 ?_
            refine seq_skip rfl rfl h35 ?_
            refine seq_run0 (stp_pick_t rfl (bTT h44) rfl) ?_
            refine seq_run0 (stp_move (.dat _) rfl) ?_
            refine seq_skip rfl rfl rfl ?_
            refine seq_skip rfl rfl rfl ?_
            refine seq_skip rfl rfl rfl ?_
            refine seq_skip rfl rfl rfl ?_
            refine seq_run0 (stp_pick_t rfl rfl rfl) ?_
            exact ⟨true, H, ⟨rfl, rfl, rfl, rfl, rfl, rfl, rfl, rfl, trivial⟩, trivial⟩
        · rintro v45 H
          replace H : gateref2_HostOf_J4 v45 = some q22 := H
          unfold gateref2_HostOf_J4 at H
          refine awp_cond _ rfl (fun h46 => ?_) (fun h46 => ?_)
          · replace H := ift h46 H
            refine awp_seq ?_
            refine awp_plain hN rfl ?_
            refine seq_run0 (stp_assign (.dat _) rfl) ?_
            refine seq_run0 (stp_assign (.dat _) rfl) ?_
            refine awp_ret ?_
            replace H := retl H hq22
            cases H
            exact ⟨trivial, .inl rfl, .inl rfl, trivial⟩
          · replace H := iff_ h46 H
            refine awp_skip ?_
            refine awp_plain hN rfl ?_
            refine seq_run0 (stp_add rfl rfl (by omega)) ?_
            refine seq_run0 (stp_move (.dat _) rfl) ?_
            exact ⟨_, backl H, ⟨rfl, rfl, rfl, rfl, rfl, rfl, rfl, trivial⟩, trivial⟩
theorem k_gateref2_visible (s1 : Bs) (low2 : Int) (r : (Bool)) (H : m_gateref2_visible s1 low2 = some r) : Fn Tryz.prog 83 [vstr s1, vval (.int .u8 low2)] (resOf [vbool r]) := by
  refine ⟨by kernel_rfl, pure_of (us := [vbool r]) Tryz.func83 rfl rfl rfl rfl fun X hN => ?_⟩
  unfold m_gateref2_visible at H
  refine awp_seq ?_
  refine awp_plain hN rfl ?_
  refine seq_run0 (stp_assign (.dat _) rfl) ?_
  refine awp_seq ?_
  refine awp_seq ?_
  refine awp_plain hN rfl ?_
  refine seq_run0 (stp_move (.dat _) rfl) ?_
  refine seq_run0 (stp_len_str tyU9 rfl) ?_
  refine seq_run0 (stp_move (.dat _) rfl) ?_
  refine awp_block ?_
  obtain ⟨h5, H⟩ := gif H
  refine awp_forL (fun (k3 : Nat) (s : Unit) => [(0, .dat (vstr s1)), (1, .dat (vval (.int .u8 low2))), (7, .dat (vint (s1.length : Int))), (8, .dat (vint (k3 : Int)))]) (fun (k3 : Nat) (s : Unit) => []) () H ⟨rfl, rfl, rfl, rfl, trivial⟩ trivial (fun _ _ => rfl) ?_ ?_
  · rintro ⟨⟩ H
    replace H : gateref2_visible_E1 = some r := H
    unfold gateref2_visible_E1 at H
    refine awp_seq ?_
    refine awp_plain hN rfl ?_
    refine seq_run0 (stp_lss rfl rfl) ?_
    refine awp_seq ?_
    refine awp_cond _ rfl (fun h => (lt_t h).elim) (fun h => ?_)
    refine awp_exit ?_
    refine awp_seq ?_
    refine awp_plain hN rfl ?_
    refine seq_run0 (stp_assign (.dat _) rfl) ?_
    refine awp_ret ?_
    cases H
    exact ⟨trivial, .inl rfl, trivial⟩
  · rintro k3 x6 ⟨⟩ q4 h7 h8 H hq4
    replace H : gateref2_visible_L1 low2 k3 x6 = some q4 := H
    unfold gateref2_visible_L1 at H
    refine awp_seq ?_
    refine awp_plain hN rfl ?_
    refine seq_run0 (stp_lss rfl rfl) ?_
    refine awp_seq ?_
    refine awp_cond _ rfl (fun h => ?_) (fun h => (lt_f h7 h).elim)
    refine awp_skip ?_
    refine awp_seq ?_
    refine awp_block ?_
    refine awp_seq ?_
    refine awp_plain hN rfl ?_
    refine seq_run0 (stp_move (.dat _) rfl) ?_
    refine seq_run0 (stp_assign (.dat _) rfl) ?_
    refine awp_joinE (ι := Bool) (fun i => [(0, .dat (vstr s1)), (1, .dat (vval (.int .u8 low2))), (7, .dat (vint (s1.length : Int))), (8, .dat (vint (k3 : Int))), (21, .dat (vbool i))]) (fun i => []) (fun i => gateref2_visible_J2 i = some q4) (fun i => rfl) ?_ ?_
    · skip
      refine awp_plain hN rfl ?_
      refine seq_run0 (stp_move (.dat _) rfl) ?_
      refine seq_run0 (stp_move (.dat _) rfl) ?_
      refine seq_run0 (t_byte tyU9 rfl rfl h8) ?_
      refine seq_run0 (stp_move (.dat _) rfl) ?_
      refine seq_run0 (stp_lss rfl rfl) ?_
      refine seq_run0 (stp_move (.dat _) rfl) ?_
      refine seq_split (j := 5) rfl rfl (fun h9 => ?_) (fun h9 => ?_) rfl
      · have h10 := un3 h9
        replace H := iff_ h10 H
        refine seq_g0 rfl rfl h9 (stp_move (.dat _) rfl) ?_
        refine seq_g0 rfl rfl h9 (stp_move (.dat _) rfl) ?_
        refine seq_g0 rfl rfl h9 (t_byte tyU9 rfl rfl h8) ?_
        refine seq_g0 rfl rfl h9 (stp_gtr rfl rfl) ?_
        refine seq_run0 (stp_pick_f rfl (bFF h10) rfl) ?_
        exact ⟨decide (126 < (x6.toNat : Int)), H, ⟨rfl, rfl, rfl, rfl, rfl, trivial⟩, trivial⟩
      · have h11 := un4 h9
        replace H := ift h11 H
        refine seq_skip rfl rfl h9 ?_
        refine seq_skip rfl rfl h9 ?_
        refine seq_skip rfl rfl h9 ?_
        refine seq_skip rfl rfl h9 ?_
        refine seq_run0 (stp_pick_t rfl (bTT h11) rfl) ?_
        exact ⟨true, H, ⟨rfl, rfl, rfl, rfl, rfl, trivial⟩, trivial⟩
    · rintro v12 H
      replace H : gateref2_visible_J2 v12 = some q4 := H
      unfold gateref2_visible_J2 at H
      refine awp_cond _ rfl (fun h13 => ?_) (fun h13 => ?_)
      · replace H := ift h13 H
        refine awp_seq ?_
        refine awp_plain hN rfl ?_
        refine seq_run0 (stp_assign (.dat _) rfl) ?_
        refine awp_ret ?_
        replace H := retl H hq4
        cases H
        exact ⟨trivial, .inl rfl, trivial⟩
      · replace H := iff_ h13 H
        refine awp_skip ?_
        refine awp_plain hN rfl ?_
        refine seq_run0 (stp_add rfl rfl (by omega)) ?_
        refine seq_run0 (stp_move (.dat _) rfl) ?_
        exact ⟨_, backl H, ⟨rfl, rfl, rfl, rfl, trivial⟩, trivial⟩
theorem k_gateref2_Field (s1 : Bs) (r : (Bool)) (H : m_gateref2_Field s1 = some r) : Fn Tryz.prog 75 [vstr s1] (resOf [vbool r]) := by
  refine ⟨by kernel_rfl, pure_of (us := [vbool r]) Tryz.func75 rfl rfl rfl rfl fun X hN => ?_⟩
  unfold m_gateref2_Field at H
  refine awp_seq ?_
  refine awp_plain hN rfl ?_
  refine seq_run0 (stp_assign (.dat _) rfl) ?_
  refine awp_joinE (ι := Bool) (fun i => [(2, .dat (vbool i))]) (fun i => []) (fun i => gateref2_Field_J1 i = some r) (fun i => rfl) ?_ ?_
  · skip
    refine awp_plain hN rfl ?_
    refine seq_run0 (stp_move (.dat _) rfl) ?_
    refine seq_run0 (stp_len_str tyU9 rfl) ?_
    refine seq_run0 (stp_leq rfl rfl) ?_
    refine seq_run0 (stp_move (.dat _) rfl) ?_
    refine seq_split (j := 3) rfl rfl (fun h2 => ?_) (fun h2 => ?_) rfl
    · have h3 := un1 h2
      replace H := ift h3 H
      refine seq_g0 rfl rfl h2 (stp_move (.dat _) rfl) ?_
      obtain ⟨r4, h5, H⟩ := bnd H
      refine seq_g0 rfl rfl h2 (stp_call (k_gateref2_visible s1 32 r4 h5) ⟨.inl rfl, .inl rfl, trivial⟩) ?_
      refine seq_run0 (stp_pick_t rfl (bTT h3) rfl) ?_
      refine seq_run0 (stp_move (.dat _) rfl) ?_
      refine seq_split (j := 7) rfl rfl (fun h6 => ?_) (fun h6 => ?_) rfl
      · have h7 := un1 h6
        replace H := ift h7 H
        refine seq_g0 rfl rfl h6 (stp_move (.dat _) rfl) ?_
        obtain ⟨r8, h9, H⟩ := bnd H
        refine seq_g0 rfl rfl h6 (stp_call (k_strings_Trim s1 [32] r8 h9) ⟨.inl rfl, .inl rfl, trivial⟩) ?_
        refine seq_g0 rfl rfl h6 (stp_move (.dat _) rfl) ?_
        refine seq_g0 rfl rfl h6 (stp_seql rfl rfl) ?_
        refine seq_run0 (stp_pick_t rfl (bTT h7) rfl) ?_
        refine seq_run0 (stp_assign (.dat _) rfl) ?_
        exact ⟨decide (r8 = s1), H, ⟨rfl, trivial⟩, trivial⟩
      · have h10 := un2 h6
        replace H := iff_ h10 H
        refine seq_skip rfl rfl h6 ?_
        refine seq_skip rfl rfl h6 ?_
        refine seq_skip rfl rfl h6 ?_
        refine seq_skip rfl rfl h6 ?_
        refine seq_run0 (stp_pick_f rfl (bFF h10) rfl) ?_
        refine seq_run0 (stp_assign (.dat _) rfl) ?_
        exact ⟨false, H, ⟨rfl, trivial⟩, trivial⟩
    · have h11 := un2 h2
      replace H := iff_ h11 H
      refine seq_skip rfl rfl h2 ?_
      refine seq_skip rfl rfl h2 ?_
      refine seq_run0 (stp_pick_f rfl (bFF h11) rfl) ?_
      refine seq_run0 (stp_move (.dat _) rfl) ?_
      refine seq_skip rfl rfl rfl ?_
      refine seq_skip rfl rfl rfl ?_
      refine seq_skip rfl rfl rfl ?_
      refine seq_skip rfl rfl rfl ?_
      refine seq_run0 (stp_pick_f rfl rfl rfl) ?_
      refine seq_run0 (stp_assign (.dat _) rfl) ?_
      exact ⟨false, H, ⟨rfl, trivial⟩, trivial⟩
  · rintro v12 H
    replace H : gateref2_Field_J1 v12 = some r := H
    unfold gateref2_Field_J1 at H
    refine awp_ret ?_
    cases H
    exact ⟨trivial, .inl rfl, trivial⟩
theorem k_strings_ContainsAny (s p : Bs) (r : Bool) (H : m_strings_ContainsAny s p = some r) : Fn Tryz.prog 74 [vstr s, vstr p] (resOf [vbool r]) := by
  unfold m_strings_ContainsAny at H
  obtain ⟨⟨⟨h1, h2⟩, h3, h4⟩, h5⟩ := gif H
  cases h5
  refine fn_of_callsG (by kernel_rfl) fun M w vs hM h => ?_
  have hv := Ts_vals (us := [.string ⟨s.toArray⟩, .string ⟨p.toArray⟩]) h
  subst hv
  refine (Tryz.strings_ContainsAny_laid ⟨s.toArray⟩ ⟨p.toArray⟩ w (by simp [ByteArray.size]; omega) (by simp [ByteArray.size]; omega) (fun j b hb => ascB_at h3 j b (by simpa using hb)) (fun j b hb => ascB_at h4 j b (by simpa using hb))).mono ?_
  rintro e w' ⟨rfl, hb⟩
  exact ⟨_, rfl, rfl, Kp.of_below hb⟩

theorem k_gateref2_cookieValue (s1 : Bs) (r : (Bool)) (H : m_gateref2_cookieValue s1 = some r) : Fn Tryz.prog 38 [vstr s1] (resOf [vbool r]) := by
  refine ⟨by kernel_rfl, pure_of (us := [vbool r]) Tryz.func38 rfl rfl rfl rfl fun X hN => ?_⟩
  unfold m_gateref2_cookieValue at H
  refine awp_seq ?_
  refine awp_plain hN rfl ?_
  refine seq_run0 (stp_assign (.dat _) rfl) ?_
  refine awp_joinE (ι := Bool) (fun i => [(2, .dat (vbool i))]) (fun i => []) (fun i => gateref2_cookieValue_J1 i = some r) (fun i => rfl) ?_ ?_
  · skip
    refine awp_plain hN rfl ?_
    refine seq_run0 (stp_move (.dat _) rfl) ?_
    obtain ⟨r2, h3, H⟩ := bnd H
    refine seq_run0 (stp_call (k_gateref2_Field s1 r2 h3) ⟨.inl rfl, trivial⟩) ?_
    refine seq_run0 (stp_move (.dat _) rfl) ?_
    refine seq_split (j := 2) rfl rfl (fun h4 => ?_) (fun h4 => ?_) rfl
    · have h5 := un1 h4
      replace H := ift h5 H
      refine seq_g0 rfl rfl h4 (stp_move (.dat _) rfl) ?_
      obtain ⟨r6, h7, H⟩ := bnd H
      refine seq_g0 rfl rfl h4 (stp_call (k_strings_ContainsAny s1 [34, 44, 92, 32, 59] r6 h7) ⟨.inl rfl, .inl rfl, trivial⟩) ?_
      refine seq_g0 rfl rfl h4 (stp_not rfl) ?_
      refine seq_run0 (stp_pick_t rfl (bTT h5) rfl) ?_
      refine seq_run0 (stp_assign (.dat _) rfl) ?_
      exact ⟨!r6, H, ⟨rfl, trivial⟩, trivial⟩
    · have h8 := un2 h4
      replace H := iff_ h8 H
      refine seq_skip rfl rfl h4 ?_
      refine seq_skip rfl rfl h4 ?_
      refine seq_skip rfl rfl h4 ?_
      refine seq_run0 (stp_pick_f rfl (bFF h8) rfl) ?_
      refine seq_run0 (stp_assign (.dat _) rfl) ?_
      exact ⟨false, H, ⟨rfl, trivial⟩, trivial⟩
  · rintro v9 H
    replace H : gateref2_cookieValue_J1 v9 = some r := H
    unfold gateref2_cookieValue_J1 at H
    refine awp_ret ?_
    cases H
    exact ⟨trivial, .inl rfl, trivial⟩
theorem k_strings_Contains (s p : Bs) (r : Bool) (H : m_strings_Contains s p = some r) : Fn Tryz.prog 41 [vstr s, vstr p] (resOf [vbool r]) := by
  unfold m_strings_Contains at H
  obtain ⟨h1, h2⟩ := gif H
  cases h2
  refine fn_of_callsG (by kernel_rfl) fun M w vs hM h => ?_
  have hv := Ts_vals (us := [.string ⟨s.toArray⟩, .string ⟨p.toArray⟩]) h
  subst hv
  obtain ⟨m, hm⟩ := maxLen_cell hM
  refine (Tryz.strings_Contains ⟨s.toArray⟩ ⟨p.toArray⟩ m w (by simp [ByteArray.size]; omega) hm).mono ?_
  rintro e w' ⟨rfl, rfl⟩
  exact ⟨_, rfl, rfl, Kp.refl _ _⟩

theorem k_gateref2_pathForm (s1 : Bs) (r : (Bool)) (H : m_gateref2_pathForm s1 = some r) : Fn Tryz.prog 46 [vstr s1] (resOf [vbool r]) := by
  refine ⟨by kernel_rfl, pure_of (us := [vbool r]) Tryz.func46 rfl rfl rfl rfl fun X hN => ?_⟩
  unfold m_gateref2_pathForm at H
  refine awp_seq ?_
  refine awp_plain hN rfl ?_
  refine seq_run0 (stp_assign (.dat _) rfl) ?_
  refine awp_joinE (ι := Bool) (fun i => [(2, .dat (vbool i))]) (fun i => []) (fun i => gateref2_pathForm_J1 i = some r) (fun i => rfl) ?_ ?_
  · skip
    refine awp_plain hN rfl ?_
    refine seq_run0 (stp_move (.dat _) rfl) ?_
    refine seq_run0 (stp_len_str tyU9 rfl) ?_
    obtain ⟨r2, h3, H⟩ := bnd H
    refine seq_run0 (stp_call (k_gateref2_in (s1.length : Int) 1 1000 r2 h3) ⟨.inl rfl, .inl rfl, .inl rfl, trivial⟩) ?_
    refine seq_run0 (stp_move (.dat _) rfl) ?_
    refine seq_split (j := 3) rfl rfl (fun h4 => ?_) (fun h4 => ?_) rfl
    · have h5 := un1 h4
      replace H := ift h5 H
      refine seq_g0 rfl rfl h4 (stp_move (.dat _) rfl) ?_
      obtain ⟨x6, h7, H⟩ := bnd H
      refine seq_g0 rfl rfl h4 (t_byte tyU9 rfl rfl h7) ?_
      refine seq_g0 rfl rfl h4 (stp_eql rfl rfl) ?_
      refine seq_run0 (stp_pick_t rfl (bTT h5) rfl) ?_
      refine seq_run0 (stp_move (.dat _) rfl) ?_
      refine seq_split (j := 8) rfl rfl (fun h8 => ?_) (fun h8 => ?_) rfl
      · have h9 := un1 h8
        replace H := ift h9 H
        refine seq_g0 rfl rfl h8 (stp_move (.dat _) rfl) ?_
        obtain ⟨r10, h11, H⟩ := bnd H
        refine seq_g0 rfl rfl h8 (stp_call (k_gateref2_visible s1 33 r10 h11) ⟨.inl rfl, .inl rfl, trivial⟩) ?_
        refine seq_run0 (stp_pick_t rfl (bTT h9) rfl) ?_
        refine seq_run0 (stp_move (.dat _) rfl) ?_
        refine seq_split (j := 12) rfl rfl (fun h12 => ?_) (fun h12 => ?_) rfl
        · have h13 := un1 h12
          replace H := ift h13 H
          refine seq_g0 rfl rfl h12 (stp_move (.dat _) rfl) ?_
          obtain ⟨r14, h15, H⟩ := bnd H
          refine seq_g0 rfl rfl h12 (stp_call (k_strings_ContainsAny s1 [63, 35] r14 h15) ⟨.inl rfl, .inl rfl, trivial⟩) ?_
          refine seq_g0 rfl rfl h12 (stp_not rfl) ?_
          refine seq_run0 (stp_pick_t rfl (bTT h13) rfl) ?_
          refine seq_run0 (stp_assign (.dat _) rfl) ?_
          exact ⟨!r14, H, ⟨rfl, trivial⟩, trivial⟩
        · have h16 := un2 h12
          replace H := iff_ h16 H
          refine seq_skip rfl rfl h12 ?_
          refine seq_skip rfl rfl h12 ?_
          refine seq_skip rfl rfl h12 ?_
          refine seq_run0 (stp_pick_f rfl (bFF h16) rfl) ?_
          refine seq_run0 (stp_assign (.dat _) rfl) ?_
          exact ⟨false, H, ⟨rfl, trivial⟩, trivial⟩
      · have h17 := un2 h8
        replace H := iff_ h17 H
        refine seq_skip rfl rfl h8 ?_
        refine seq_skip rfl rfl h8 ?_
        refine seq_run0 (stp_pick_f rfl (bFF h17) rfl) ?_
        refine seq_run0 (stp_move (.dat _) rfl) ?_
        refine seq_skip rfl rfl rfl ?_
        refine seq_skip rfl rfl rfl ?_
        refine seq_skip rfl rfl rfl ?_
        refine seq_run0 (stp_pick_f rfl rfl rfl) ?_
        refine seq_run0 (stp_assign (.dat _) rfl) ?_
        exact ⟨false, H, ⟨rfl, trivial⟩, trivial⟩
    · have h18 := un2 h4
      replace H := iff_ h18 H
      refine seq_skip rfl rfl h4 ?_
      refine seq_skip rfl rfl h4 ?_
      refine seq_skip rfl rfl h4 ?_
      refine seq_run0 (stp_pick_f rfl (bFF h18) rfl) ?_
      refine seq_run0 (stp_move (.dat _) rfl) ?_
      refine seq_skip rfl rfl rfl ?_
      refine seq_skip rfl rfl rfl ?_
      refine seq_run0 (stp_pick_f rfl rfl rfl) ?_
      refine seq_run0 (stp_move (.dat _) rfl) ?_
      refine seq_skip rfl rfl rfl ?_
      refine seq_skip rfl rfl rfl ?_
      refine seq_skip rfl rfl rfl ?_
      refine seq_run0 (stp_pick_f rfl rfl rfl) ?_
      refine seq_run0 (stp_assign (.dat _) rfl) ?_
      exact ⟨false, H, ⟨rfl, trivial⟩, trivial⟩
  · rintro v19 H
    replace H : gateref2_pathForm_J1 v19 = some r := H
    unfold gateref2_pathForm_J1 at H
    refine awp_ret ?_
    cases H
    exact ⟨trivial, .inl rfl, trivial⟩
theorem k_gateref2_CookieFault (c1 : S_api_Cookie) (r : (Int)) (H : m_gateref2_CookieFault c1 = some r) : Fn Tryz.prog 10 [vagg (C_api_Cookie c1)] (resOf [vint r]) := by
  refine ⟨by kernel_rfl, pure_of (us := [vint r]) Tryz.func10 rfl rfl rfl rfl fun X hN => ?_⟩
  unfold m_gateref2_CookieFault at H
  refine awp_seq ?_
  refine awp_plain hN rfl ?_
  refine seq_run2 (stp_boxA 1 rfl) rfl ?_
  refine seq_run0 (stp_assign (.dat _) rfl) ?_
  refine awp_seq ?_
  refine awp_seq ?_
  refine awp_plain hN rfl ?_
  refine seq_run0 (stp_fldP tyF29_0 rfl) ?_
  refine seq_run1 (stp_load1 tyS9 rfl rfl) rfl ?_
  obtain ⟨r2, h3, H⟩ := bnd H
  refine seq_run0 (stp_call (k_gateref2_Token c1.Name r2 h3) ⟨.inl rfl, trivial⟩) ?_
  refine seq_run0 (stp_not rfl) ?_
  refine awp_cond _ rfl (fun h4 => ?_) (fun h4 => ?_)
  · replace H := ift h4 H
    refine awp_seq ?_
    refine awp_plain hN rfl ?_
    refine seq_run0 (stp_assign (.dat _) rfl) ?_
    refine awp_ret ?_
    cases H
    exact ⟨trivial, .inl rfl, trivial⟩
  · replace H := iff_ h4 H
    refine awp_skip ?_
    refine awp_seq ?_
    refine awp_plain hN rfl ?_
    refine seq_run0 (stp_fldP tyF29_2 rfl) ?_
    refine seq_run1 (stp_load1 tyS9 rfl rfl) rfl ?_
    obtain ⟨r5, h6, H⟩ := bnd H
    refine seq_run0 (stp_call (k_gateref2_HostOf c1.Domain r5 h6) ⟨.inl rfl, trivial⟩) ?_
    refine seq_run0 (stp_move (.dat _) rfl) ?_
    refine seq_run0 (stp_ext rfl rfl) ?_
    refine seq_run0 (stp_ext rfl rfl) ?_
    refine seq_run0 (stp_assign (.dat _) rfl) ?_
    refine seq_run0 (stp_assign (.dat _) rfl) ?_
    refine awp_seq ?_
    refine awp_joinE (ι := Bool) (fun i => [(1, .ptr 1 0), (53, .dat (vbool i))]) (fun i => [(1, .box none 29 [.dat (vstr c1.Name), .dat (vstr c1.Value), .dat (vstr c1.Domain), .dat (vstr c1.Path), .dat (vint c1.MaxAge), .dat (vbool c1.Secure), .dat (vbool c1.Hidden)])]) (fun i => gateref2_CookieFault_J1 c1 i = some r) (fun i => rfl) ?_ ?_
    · skip
      refine awp_plain hN rfl ?_
      refine seq_run0 (stp_fldP tyF29_1 rfl) ?_
      refine seq_run1 (stp_load1 tyS9 rfl rfl) rfl ?_
      obtain ⟨r7, h8, H⟩ := bnd H
      refine seq_run0 (stp_call (k_gateref2_cookieValue c1.Value r7 h8) ⟨.inl rfl, trivial⟩) ?_
      refine seq_run0 (stp_not rfl) ?_
      refine seq_run0 (stp_move (.dat _) rfl) ?_
      refine seq_split (j := 4) rfl rfl (fun h9 => ?_) (fun h9 => ?_) rfl
      · have h10 := un3 h9
        replace H := iff_ h10 H
        refine seq_g0 rfl rfl h9 (stp_fldP tyF29_2 rfl) ?_
        refine seq_g1 rfl rfl h9 (stp_load1 tyS9 rfl rfl) rfl ?_
        refine seq_g0 rfl rfl h9 (stp_sneq rfl rfl) ?_
        refine seq_g0 rfl rfl h9 (stp_move (.dat _) rfl) ?_
        refine seq_split (j := 8) rfl rfl (fun h11 => ?_) (fun h11 => ?_) rfl
        · have h12 := un1 h11
          replace H := ift h12 H
          refine seq_g0 rfl rfl h11 (stp_move (.dat _) rfl) ?_
          refine seq_g0 rfl rfl h11 (stp_neq rfl rfl) ?_
          refine seq_g0 rfl rfl h11 (stp_move (.dat _) rfl) ?_
          refine seq_split (j := 11) rfl rfl (fun h13 => ?_) (fun h13 => ?_) rfl
          · have h14 := un3 h13
            replace H := iff_ h14 H
            refine seq_g0 rfl rfl h13 (stp_move (.dat _) rfl) ?_
            refine seq_g0 rfl rfl h13 (stp_fldP tyF29_2 rfl) ?_
            refine seq_g1 rfl rfl h13 (stp_load1 tyS9 rfl rfl) rfl ?_
            refine seq_g0 rfl rfl h13 (stp_sneq rfl rfl) ?_
            refine seq_g0 rfl rfl h11 (stp_pick_f rfl (bFF h14) rfl) ?_
            refine seq_g0 rfl rfl h11 (stp_move (.dat _) rfl) ?_
            refine seq_split (j := 17) rfl rfl (fun h15 => ?_) (fun h15 => ?_) rfl
            · have h16 := un3 h15
              replace H := iff_ h16 H
              refine seq_g0 rfl rfl h15 (stp_move (.dat _) rfl) ?_
              obtain ⟨r17, h18, H⟩ := bnd H
              refine seq_g0 rfl rfl h15 (stp_call (k_strings_Contains r5.1 [58] r17 h18) ⟨.inl rfl, .inl rfl, trivial⟩) ?_
              refine seq_g0 rfl rfl h11 (stp_pick_f rfl (bFF h16) rfl) ?_
              refine seq_g0 rfl rfl h9 (stp_pick_t rfl (bTT h12) rfl) ?_
              refine seq_run0 (stp_pick_f rfl (bFF h10) rfl) ?_
              refine seq_run0 (stp_move (.dat _) rfl) ?_
              refine seq_split (j := 23) rfl rfl (fun h19 => ?_) (fun h19 => ?_) rfl
              · have h20 := un3 h19
                replace H := iff_ h20 H
                refine seq_g0 rfl rfl h19 (stp_fldP tyF29_3 rfl) ?_
                refine seq_g1 rfl rfl h19 (stp_load1 tyS9 rfl rfl) rfl ?_
                refine seq_g0 rfl rfl h19 (stp_sneq rfl rfl) ?_
                refine seq_g0 rfl rfl h19 (stp_move (.dat _) rfl) ?_
                refine seq_split (j := 27) rfl rfl (fun h21 => ?_) (fun h21 => ?_) rfl
                · have h22 := un1 h21
                  replace H := ift h22 H
                  refine seq_g0 rfl rfl h21 (stp_fldP tyF29_3 rfl) ?_
                  refine seq_g1 rfl rfl h21 (stp_load1 tyS9 rfl rfl) rfl ?_
                  obtain ⟨r23, h24, H⟩ := bnd H
                  refine seq_g0 rfl rfl h21 (stp_call (k_gateref2_pathForm c1.Path r23 h24) ⟨.inl rfl, trivial⟩) ?_
                  refine seq_g0 rfl rfl h21 (stp_not rfl) ?_
                  refine seq_g0 rfl rfl h21 (stp_move (.dat _) rfl) ?_
                  refine seq_split (j := 32) rfl rfl (fun h25 => ?_) (fun h25 => ?_) rfl
                  · have h26 := un3 h25
                    replace H := iff_ h26 H
                    refine seq_g0 rfl rfl h25 (stp_fldP tyF29_3 rfl) ?_
                    refine seq_g1 rfl rfl h25 (stp_load1 tyS9 rfl rfl) rfl ?_
                    obtain ⟨r27, h28, H⟩ := bnd H
                    refine seq_g0 rfl rfl h25 (stp_call (k_strings_Contains c1.Path [59] r27 h28) ⟨.inl rfl, .inl rfl, trivial⟩) ?_
                    refine seq_g0 rfl rfl h21 (stp_pick_f rfl (bFF h26) rfl) ?_
                    refine seq_g0 rfl rfl h19 (stp_pick_t rfl (bTT h22) rfl) ?_
                    refine seq_run0 (stp_pick_f rfl (bFF h20) rfl) ?_
                    exact ⟨r27, H, ⟨rfl, rfl, trivial⟩, ⟨rfl, trivial⟩⟩
                  · have h29 := un4 h25
                    replace H := ift h29 H
                    refine seq_skip rfl rfl h25 ?_
                    refine seq_skip rfl rfl h25 ?_
                    refine seq_skip rfl rfl h25 ?_
                    refine seq_g0 rfl rfl h21 (stp_pick_t rfl (bTT h29) rfl) ?_
                    refine seq_g0 rfl rfl h19 (stp_pick_t rfl (bTT h22) rfl) ?_
                    refine seq_run0 (stp_pick_f rfl (bFF h20) rfl) ?_
                    exact ⟨true, H, ⟨rfl, rfl, trivial⟩, ⟨rfl, trivial⟩⟩
                · have h30 := un2 h21
                  replace H := iff_ h30 H
                  refine seq_skip rfl rfl h21 ?_
                  refine seq_skip rfl rfl h21 ?_
                  refine seq_skip rfl rfl h21 ?_
                  refine seq_skip rfl rfl h21 ?_
                  refine seq_skip rfl rfl h21 ?_
                  refine seq_skipU rfl rfl ?_
                  refine seq_skipU rfl rfl ?_
                  refine seq_skipU rfl rfl ?_
                  refine seq_skip rfl rfl h21 ?_
                  refine seq_g0 rfl rfl h19 (stp_pick_f rfl (bFF h30) rfl) ?_
                  refine seq_run0 (stp_pick_f rfl (bFF h20) rfl) ?_
                  exact ⟨false, H, ⟨rfl, rfl, trivial⟩, ⟨rfl, trivial⟩⟩
              · have h31 := un4 h19
                replace H := ift h31 H
                refine seq_skip rfl rfl h19 ?_
                refine seq_skip rfl rfl h19 ?_
                refine seq_skip rfl rfl h19 ?_
                refine seq_skip rfl rfl h19 ?_
                refine seq_skipU rfl rfl ?_
                refine seq_skipU rfl rfl ?_
                refine seq_skipU rfl rfl ?_
                refine seq_skipU rfl rfl ?_
                refine seq_skipU rfl rfl ?_
                refine seq_skipU rfl rfl ?_
                refine seq_skipU rfl rfl ?_
                refine seq_skipU rfl rfl ?_
                refine seq_skipU rfl rfl ?_
                refine seq_skip rfl rfl h19 ?_
                refine seq_run0 (stp_pick_t rfl (bTT h31) rfl) ?_
                exact ⟨true, H, ⟨rfl, rfl, trivial⟩, ⟨rfl, trivial⟩⟩
            · have h32 := un4 h15
              replace H := ift h32 H
              refine seq_skip rfl rfl h15 ?_
              refine seq_skip rfl rfl h15 ?_
              refine seq_g0 rfl rfl h11 (stp_pick_t rfl (bTT h32) rfl) ?_
              refine seq_g0 rfl rfl h9 (stp_pick_t rfl (bTT h12) rfl) ?_
              refine seq_run0 (stp_pick_f rfl (bFF h10) rfl) ?_
              refine seq_run0 (stp_move (.dat _) rfl) ?_
              refine seq_skip rfl rfl rfl ?_
              refine seq_skip rfl rfl rfl ?_
              refine seq_skip rfl rfl rfl ?_
              refine seq_skip rfl rfl rfl ?_
              refine seq_skipU rfl rfl ?_
              refine seq_skipU rfl rfl ?_
              refine seq_skipU rfl rfl ?_
              refine seq_skipU rfl rfl ?_
              refine seq_skipU rfl rfl ?_
              refine seq_skipU rfl rfl ?_
              refine seq_skipU rfl rfl ?_
              refine seq_skipU rfl rfl ?_
              refine seq_skipU rfl rfl ?_
              refine seq_skip rfl rfl rfl ?_
              refine seq_run0 (stp_pick_t rfl rfl rfl) ?_
              exact ⟨true, H, ⟨rfl, rfl, trivial⟩, ⟨rfl, trivial⟩⟩
          · have h33 := un4 h13
            replace H := ift h33 H
            refine seq_skip rfl rfl h13 ?_
            refine seq_skip rfl rfl h13 ?_
            refine seq_skip rfl rfl h13 ?_
            refine seq_skip rfl rfl h13 ?_
            refine seq_g0 rfl rfl h11 (stp_pick_t rfl (bTT h33) rfl) ?_
            refine seq_g0 rfl rfl h11 (stp_move (.dat _) rfl) ?_
            refine seq_skip rfl rfl rfl ?_
            refine seq_skip rfl rfl rfl ?_
            refine seq_g0 rfl rfl h11 (stp_pick_t rfl rfl rfl) ?_
            refine seq_g0 rfl rfl h9 (stp_pick_t rfl (bTT h12) rfl) ?_
            refine seq_run0 (stp_pick_f rfl (bFF h10) rfl) ?_
            refine seq_run0 (stp_move (.dat _) rfl) ?_
            refine seq_skip rfl rfl rfl ?_
            refine seq_skip rfl rfl rfl ?_
            refine seq_skip rfl rfl rfl ?_
            refine seq_skip rfl rfl rfl ?_
            refine seq_skipU rfl rfl ?_
            refine seq_skipU rfl rfl ?_
            refine seq_skipU rfl rfl ?_
            refine seq_skipU rfl rfl ?_
            refine seq_skipU rfl rfl ?_
            refine seq_skipU rfl rfl ?_
            refine seq_skipU rfl rfl ?_
            refine seq_skipU rfl rfl ?_
            refine seq_skipU rfl rfl ?_
            refine seq_skip rfl rfl rfl ?_
            refine seq_run0 (stp_pick_t rfl rfl rfl) ?_
            exact ⟨true, H, ⟨rfl, rfl, trivial⟩, ⟨rfl, trivial⟩⟩
        · have h34 := un2 h11
          replace H := iff_ h34 H
          refine seq_skip rfl rfl h11 ?_
          refine seq_skip rfl rfl h11 ?_
          refine seq_skip rfl rfl h11 ?_
          refine seq_skipU rfl rfl ?_
          refine seq_skipU rfl rfl ?_
          refine seq_skipU rfl rfl ?_
          refine seq_skipU rfl rfl ?_
          refine seq_skip rfl rfl h11 ?_
          refine seq_skip rfl rfl h11 ?_
          refine seq_skipU rfl rfl ?_
          refine seq_skipU rfl rfl ?_
          refine seq_skip rfl rfl h11 ?_
          refine seq_g0 rfl rfl h9 (stp_pick_f rfl (bFF h34) rfl) ?_
          refine seq_run0 (stp_pick_f rfl (bFF h10) rfl) ?_
          refine seq_run0 (stp_move (.dat _) rfl) ?_
          refine seq_g0 rfl rfl rfl (stp_fldP tyF29_3 rfl) ?_
          refine seq_g1 rfl rfl rfl (stp_load1 tyS9 rfl rfl) rfl ?_
          refine seq_g0 rfl rfl rfl (stp_sneq rfl rfl) ?_
          refine seq_g0 rfl rfl rfl (stp_move (.dat _) rfl) ?_
          refine seq_split (j := 27) rfl rfl (fun h35 => ?_) (fun h35 => ?_) rfl
          · have h36 := un1 h35
            replace H := ift h36 H
            refine seq_g0 rfl rfl h35 (stp_fldP tyF29_3 rfl) ?_
            refine seq_g1 rfl rfl h35 (stp_load1 tyS9 rfl rfl) rfl ?_
            obtain ⟨r37, h38, H⟩ := bnd H
            refine seq_g0 rfl rfl h35 (stp_call (k_gateref2_pathForm c1.Path r37 h38) ⟨.inl rfl, trivial⟩) ?_
            refine seq_g0 rfl rfl h35 (stp_not rfl) ?_
            refine seq_g0 rfl rfl h35 (stp_move (.dat _) rfl) ?_
            refine seq_split (j := 32) rfl rfl (fun h39 => ?_) (fun h39 => ?_) rfl
            · have h40 := un3 h39
              replace H := iff_ h40 H
              refine seq_g0 rfl rfl h39 (stp_fldP tyF29_3 rfl) ?_
              refine seq_g1 rfl rfl h39 (stp_load1 tyS9 rfl rfl) rfl ?_
              obtain ⟨r41, h42, H⟩ := bnd H
              refine seq_g0 rfl rfl h39 (stp_call (k_strings_Contains c1.Path [59] r41 h42) ⟨.inl rfl, .inl rfl, trivial⟩) ?_
              refine seq_g0 rfl rfl h35 (stp_pick_f rfl (bFF h40) rfl) ?_
              refine seq_g0 rfl rfl rfl (stp_pick_t rfl (bTT h36) rfl) ?_
              refine seq_run0 (stp_pick_f rfl rfl rfl) ?_
              exact ⟨r41, H, ⟨rfl, rfl, trivial⟩, ⟨rfl, trivial⟩⟩
            · have h43 := un4 h39
              replace H := ift h43 H
              refine seq_skip rfl rfl h39 ?_
              refine seq_skip rfl rfl h39 ?_
              refine seq_skip rfl rfl h39 ?_
              refine seq_g0 rfl rfl h35 (stp_pick_t rfl (bTT h43) rfl) ?_
              refine seq_g0 rfl rfl rfl (stp_pick_t rfl (bTT h36) rfl) ?_
              refine seq_run0 (stp_pick_f rfl rfl rfl) ?_
              exact ⟨true, H, ⟨rfl, rfl, trivial⟩, ⟨rfl, trivial⟩⟩
          · have h44 := un2 h35
            replace H := iff_ h44 H
            refine seq_skip rfl rfl h35 ?_
            refine seq_skip rfl rfl h35 ?_
            refine seq_skip rfl rfl h35 ?_
            refine seq_skip rfl rfl h35 ?_
            refine seq_skip rfl rfl h35 ?_
            refine seq_skipU rfl rfl ?_
            refine seq_skipU rfl rfl ?_
            refine seq_skipU rfl rfl ?_
            refine seq_skip rfl rfl h35 ?_
            refine seq_g0 rfl rfl rfl (stp_pick_f rfl (bFF h44) rfl) ?_
            refine seq_run0 (stp_pick_f rfl rfl rfl) ?_
            exact ⟨false, H, ⟨rfl, rfl, trivial⟩, ⟨rfl, trivial⟩⟩
      · have h45 := un4 h9
        replace H := ift h45 H
        refine seq_skip rfl rfl h9 ?_
        refine seq_skip rfl rfl h9 ?_
        refine seq_skip rfl rfl h9 ?_
        refine seq_skip rfl rfl h9 ?_
        refine seq_skipU rfl rfl ?_
        refine seq_skipU rfl rfl ?_
        refine seq_skipU rfl rfl ?_
        refine seq_skipU rfl rfl ?_
        refine seq_skipU rfl rfl ?_
        refine seq_skipU rfl rfl ?_
        refine seq_skipU rfl rfl ?_
        refine seq_skipU rfl rfl ?_
        refine seq_skipU rfl rfl ?_
        refine seq_skipU rfl rfl ?_
        refine seq_skipU rfl rfl ?_
        refine seq_skipU rfl rfl ?_
        refine seq_skip rfl rfl h9 ?_
        refine seq_run0 (stp_pick_t rfl (bTT h45) rfl) ?_
        refine seq_run0 (stp_move (.dat _) rfl) ?_
        refine seq_skip rfl rfl rfl ?_
        refine seq_skip rfl rfl rfl ?_
        refine seq_skip rfl rfl rfl ?_
        refine seq_skip rfl rfl rfl ?_
        refine seq_skipU rfl rfl ?_
        refine seq_skipU rfl rfl ?_
        refine seq_skipU rfl rfl ?_
        refine seq_skipU rfl rfl ?_
        refine seq_skipU rfl rfl ?_
        refine seq_skipU rfl rfl ?_
        refine seq_skipU rfl rfl ?_
        refine seq_skipU rfl rfl ?_
        refine seq_skipU rfl rfl ?_
        refine seq_skip rfl rfl rfl ?_
        refine seq_run0 (stp_pick_t rfl rfl rfl) ?_
        exact ⟨true, H, ⟨rfl, rfl, trivial⟩, ⟨rfl, trivial⟩⟩
    · rintro v46 H
      replace H : gateref2_CookieFault_J1 c1 v46 = some r := H
      unfold gateref2_CookieFault_J1 at H
      refine awp_cond _ rfl (fun h47 => ?_) (fun h47 => ?_)
      · replace H := ift h47 H
        refine awp_seq ?_
        refine awp_plain hN rfl ?_
        refine seq_run0 (stp_assign (.dat _) rfl) ?_
        refine awp_ret ?_
        cases H
        exact ⟨trivial, .inl rfl, trivial⟩
      · replace H := iff_ h47 H
        refine awp_skip ?_
        refine awp_seq ?_
        refine awp_seq ?_
        refine awp_plain hN rfl ?_
        refine seq_run0 (stp_fldP tyF29_4 rfl) ?_
        refine seq_run1 (stp_load1 tyS3 rfl rfl) rfl ?_
        obtain ⟨r48, h49, H⟩ := bnd H
        refine seq_run0 (stp_call (k_gateref2_in c1.MaxAge (-1) 1000000000000000 r48 h49) ⟨.inl rfl, .inl rfl, .inl rfl, trivial⟩) ?_
        refine seq_run0 (stp_not rfl) ?_
        refine awp_cond _ rfl (fun h50 => ?_) (fun h50 => ?_)
        · replace H := ift h50 H
          refine awp_seq ?_
          refine awp_plain hN rfl ?_
          refine seq_run0 (stp_assign (.dat _) rfl) ?_
          refine awp_ret ?_
          cases H
          exact ⟨trivial, .inl rfl, trivial⟩
        · replace H := iff_ h50 H
          refine awp_skip ?_
          refine awp_seq ?_
          refine awp_plain hN rfl ?_
          refine seq_run0 (stp_assign (.dat _) rfl) ?_
          refine awp_ret ?_
          cases H
          exact ⟨trivial, .inl rfl, trivial⟩
theorem k_gateref2_CookieLine (c1 : S_api_Cookie) (r : (Bs)) (H : m_gateref2_CookieLine c1 = some r) : Fn Tryz.prog 11 [vagg (C_api_Cookie c1)] (resOf [vstr r]) := by
  refine ⟨by kernel_rfl, pure_of (us := [vstr r]) Tryz.func11 rfl rfl rfl rfl fun X hN => ?_⟩
  unfold m_gateref2_CookieLine at H
  refine awp_seq ?_
  refine awp_plain hN rfl ?_
  refine seq_run2 (stp_boxA 1 rfl) rfl ?_
  refine seq_run0 (stp_assign (.dat _) rfl) ?_
  refine awp_seq ?_
  refine awp_plain hN rfl ?_
  refine seq_run0 (stp_fldP tyF29_0 rfl) ?_
  refine seq_run1 (stp_load1 tyS9 rfl rfl) rfl ?_
  obtain ⟨h2, H⟩ := gif H
  refine seq_run0 (stp_sadd rfl rfl (Nat.le_trans h2 (by decide))) ?_
  refine seq_run0 (stp_fldP tyF29_1 rfl) ?_
  refine seq_run1 (stp_load1 tyS9 rfl rfl) rfl ?_
  obtain ⟨h3, H⟩ := gif H
  refine seq_run0 (stp_sadd rfl rfl (Nat.le_trans h3 (by decide))) ?_
  refine seq_run2 (t_litR (C := C_string) 2 ([((c1.Name ++ [61]) ++ c1.Value)] : (List Bs)) tyL60 ⟨rfl, .inl ⟨_, rfl, rfl, rfl⟩, rfl, trivial⟩ rfl rfl rfl) rfl ?_
  refine seq_run0 (stp_assign (.row _ _) rfl) ?_
  refine awp_joinE (ι := (List Bs)) (fun i => [(1, .ptr 1 0), (3, .row 2 i.length)]) (fun i => [(1, .box none 29 [.dat (vstr c1.Name), .dat (vstr c1.Value), .dat (vstr c1.Domain), .dat (vstr c1.Path), .dat (vint c1.MaxAge), .dat (vbool c1.Secure), .dat (vbool c1.Hidden)]), (2, .row 9 1 (List.map C_string i))]) (fun i => gateref2_CookieLine_J1 c1 i = some r) (fun i => rfl) ?_ ?_
  · skip
    refine awp_seq ?_
    refine awp_plain hN rfl ?_
    refine seq_run0 (stp_fldP tyF29_2 rfl) ?_
    refine seq_run1 (stp_load1 tyS9 rfl rfl) rfl ?_
    refine seq_run0 (stp_sneq rfl rfl) ?_
    refine awp_cond _ rfl (fun h4 => ?_) (fun h4 => ?_)
    · replace H := ift h4 H
      refine awp_plain hN rfl ?_
      refine seq_run0 (stp_move (.row _ _) rfl) ?_
      refine seq_run0 (stp_fldP tyF29_2 rfl) ?_
      refine seq_run1 (stp_load1 tyS9 rfl rfl) rfl ?_
      obtain ⟨h5, H⟩ := gif H
      refine seq_run0 (stp_sadd rfl rfl (Nat.le_trans h5 (by decide))) ?_
      refine seq_run0 (stp_dat (u' := vlst (List.map C_string [([68, 111, 109, 97, 105, 110, 61] ++ c1.Domain)])) (stp_lit [[_]] tyL60 ⟨rfl, .inl ⟨_, rfl, rfl, rfl⟩, rfl, trivial⟩ rfl rfl) rfl) ?_
      obtain ⟨h6, H⟩ := gif H
      refine seq_run2 (t_app tyL60 (fun _ => rfl) rfl rfl rfl ⟨by simp, by first | (simp; done) | simpa using h6⟩ rfl) rfl ?_
      refine seq_run0 (stp_assign (.row _ _) rfl) ?_
      exact ⟨(([((c1.Name ++ [61]) ++ c1.Value)] : (List Bs)) ++ ([([68, 111, 109, 97, 105, 110, 61] ++ c1.Domain)])), H, ⟨rfl, rfl, trivial⟩, ⟨rfl, rfl, trivial⟩⟩
    · replace H := iff_ h4 H
      refine awp_skip ?_
      exact ⟨([((c1.Name ++ [61]) ++ c1.Value)] : (List Bs)), H, ⟨rfl, rfl, trivial⟩, ⟨rfl, rfl, trivial⟩⟩
  · rintro l7 H
    replace H : gateref2_CookieLine_J1 c1 l7 = some r := H
    unfold gateref2_CookieLine_J1 at H
    refine awp_joinE (ι := (List Bs)) (fun i => [(1, .ptr 1 0), (3, .row 2 i.length)]) (fun i => [(1, .box none 29 [.dat (vstr c1.Name), .dat (vstr c1.Value), .dat (vstr c1.Domain), .dat (vstr c1.Path), .dat (vint c1.MaxAge), .dat (vbool c1.Secure), .dat (vbool c1.Hidden)]), (2, .row 9 1 (List.map C_string i))]) (fun i => gateref2_CookieLine_J2 c1 i = some r) (fun i => rfl) ?_ ?_
    · skip
      refine awp_seq ?_
      refine awp_plain hN rfl ?_
      refine seq_run0 (stp_fldP tyF29_3 rfl) ?_
      refine seq_run1 (stp_load1 tyS9 rfl rfl) rfl ?_
      refine seq_run0 (stp_sneq rfl rfl) ?_
      refine awp_cond _ rfl (fun h8 => ?_) (fun h8 => ?_)
      · replace H := ift h8 H
        refine awp_plain hN rfl ?_
        refine seq_run0 (stp_move (.row _ _) rfl) ?_
        refine seq_run0 (stp_fldP tyF29_3 rfl) ?_
        refine seq_run1 (stp_load1 tyS9 rfl rfl) rfl ?_
        obtain ⟨h9, H⟩ := gif H
        refine seq_run0 (stp_sadd rfl rfl (Nat.le_trans h9 (by decide))) ?_
        refine seq_run0 (stp_dat (u' := vlst (List.map C_string [([80, 97, 116, 104, 61] ++ c1.Path)])) (stp_lit [[_]] tyL60 ⟨rfl, .inl ⟨_, rfl, rfl, rfl⟩, rfl, trivial⟩ rfl rfl) rfl) ?_
        obtain ⟨h10, H⟩ := gif H
        refine seq_run2 (t_app tyL60 (fun _ => rfl) rfl rfl rfl ⟨by simp, by first | (simp; done) | simpa using h10⟩ rfl) rfl ?_
        refine seq_run0 (stp_assign (.row _ _) rfl) ?_
        exact ⟨(l7 ++ ([([80, 97, 116, 104, 61] ++ c1.Path)])), H, ⟨rfl, rfl, trivial⟩, ⟨rfl, rfl, trivial⟩⟩
      · replace H := iff_ h8 H
        refine awp_skip ?_
        exact ⟨l7, H, ⟨rfl, rfl, trivial⟩, ⟨rfl, rfl, trivial⟩⟩
    · rintro l11 H
      replace H : gateref2_CookieLine_J2 c1 l11 = some r := H
      unfold gateref2_CookieLine_J2 at H
      refine awp_joinE (ι := (List Bs)) (fun i => [(1, .ptr 1 0), (3, .row 2 i.length)]) (fun i => [(1, .box none 29 [.dat (vstr c1.Name), .dat (vstr c1.Value), .dat (vstr c1.Domain), .dat (vstr c1.Path), .dat (vint c1.MaxAge), .dat (vbool c1.Secure), .dat (vbool c1.Hidden)]), (2, .row 9 1 (List.map C_string i))]) (fun i => gateref2_CookieLine_J3 c1 i = some r) (fun i => rfl) ?_ ?_
      · skip
        refine awp_seq ?_
        refine awp_plain hN rfl ?_
        refine seq_run0 (stp_fldP tyF29_4 rfl) ?_
        refine seq_run1 (stp_load1 tyS3 rfl rfl) rfl ?_
        refine seq_run0 (stp_geq rfl rfl) ?_
        refine awp_cond _ rfl (fun h12 => ?_) (fun h12 => ?_)
        · replace H := ift h12 H
          refine awp_plain hN rfl ?_
          refine seq_run0 (stp_move (.row _ _) rfl) ?_
          refine seq_run0 (stp_fldP tyF29_4 rfl) ?_
          refine seq_run1 (stp_load1 tyS3 rfl rfl) rfl ?_
          obtain ⟨r13, h14, H⟩ := bnd H
          refine seq_run0 (stp_call (k_strconv_Itoa c1.MaxAge r13 h14) ⟨.inl rfl, trivial⟩) ?_
          obtain ⟨h15, H⟩ := gif H
          refine seq_run0 (stp_sadd rfl rfl (Nat.le_trans h15 (by decide))) ?_
          refine seq_run0 (stp_dat (u' := vlst (List.map C_string [([77, 97, 120, 45, 65, 103, 101, 61] ++ r13)])) (stp_lit [[_]] tyL60 ⟨rfl, .inl ⟨_, rfl, rfl, rfl⟩, rfl, trivial⟩ rfl rfl) rfl) ?_
          obtain ⟨h16, H⟩ := gif H
          refine seq_run2 (t_app tyL60 (fun _ => rfl) rfl rfl rfl ⟨by simp, by first | (simp; done) | simpa using h16⟩ rfl) rfl ?_
          refine seq_run0 (stp_assign (.row _ _) rfl) ?_
          exact ⟨(l11 ++ ([([77, 97, 120, 45, 65, 103, 101, 61] ++ r13)])), H, ⟨rfl, rfl, trivial⟩, ⟨rfl, rfl, trivial⟩⟩
        · replace H := iff_ h12 H
          refine awp_skip ?_
          exact ⟨l11, H, ⟨rfl, rfl, trivial⟩, ⟨rfl, rfl, trivial⟩⟩
      · rintro l17 H
        replace H : gateref2_CookieLine_J3 c1 l17 = some r := H
        unfold gateref2_CookieLine_J3 at H
        refine awp_joinE (ι := (List Bs)) (fun i => [(1, .ptr 1 0), (3, .row 2 i.length)]) (fun i => [(1, .box none 29 [.dat (vstr c1.Name), .dat (vstr c1.Value), .dat (vstr c1.Domain), .dat (vstr c1.Path), .dat (vint c1.MaxAge), .dat (vbool c1.Secure), .dat (vbool c1.Hidden)]), (2, .row 9 1 (List.map C_string i))]) (fun i => gateref2_CookieLine_J4 c1 i = some r) (fun i => rfl) ?_ ?_
        · skip
          refine awp_seq ?_
          refine awp_plain hN rfl ?_
          refine seq_run0 (stp_fldP tyF29_5 rfl) ?_
          refine seq_run1 (stp_load1 tyS4 rfl rfl) rfl ?_
          refine awp_cond _ rfl (fun h18 => ?_) (fun h18 => ?_)
          · replace H := ift h18 H
            refine awp_plain hN rfl ?_
            refine seq_run0 (stp_move (.row _ _) rfl) ?_
            refine seq_run0 (stp_dat (u' := vlst (List.map C_string [[83, 101, 99, 117, 114, 101]])) (stp_lit [[_]] tyL60 ⟨rfl, .inl ⟨_, rfl, rfl, rfl⟩, rfl, trivial⟩ rfl rfl) rfl) ?_
            obtain ⟨h19, H⟩ := gif H
            refine seq_run2 (t_app tyL60 (fun _ => rfl) rfl rfl rfl ⟨by simp, by first | (simp; done) | simpa using h19⟩ rfl) rfl ?_
            refine seq_run0 (stp_assign (.row _ _) rfl) ?_
            exact ⟨(l17 ++ ([[83, 101, 99, 117, 114, 101]])), H, ⟨rfl, rfl, trivial⟩, ⟨rfl, rfl, trivial⟩⟩
          · replace H := iff_ h18 H
            refine awp_skip ?_
            exact ⟨l17, H, ⟨rfl, rfl, trivial⟩, ⟨rfl, rfl, trivial⟩⟩
        · rintro l20 H
          replace H : gateref2_CookieLine_J4 c1 l20 = some r := H
          unfold gateref2_CookieLine_J4 at H
          refine awp_joinE (ι := (List Bs)) (fun i => [(3, .row 2 i.length)]) (fun i => [(2, .row 9 1 (List.map C_string i))]) (fun i => gateref2_CookieLine_J5 i = some r) (fun i => rfl) ?_ ?_
          · skip
            refine awp_seq ?_
            refine awp_plain hN rfl ?_
            refine seq_run0 (stp_fldP tyF29_6 rfl) ?_
            refine seq_run1 (stp_load1 tyS4 rfl rfl) rfl ?_
            refine awp_cond _ rfl (fun h21 => ?_) (fun h21 => ?_)
            · replace H := ift h21 H
              refine awp_plain hN rfl ?_
              refine seq_run0 (stp_move (.row _ _) rfl) ?_
              refine seq_run0 (stp_dat (u' := vlst (List.map C_string [[72, 116, 116, 112, 79, 110, 108, 121]])) (stp_lit [[_]] tyL60 ⟨rfl, .inl ⟨_, rfl, rfl, rfl⟩, rfl, trivial⟩ rfl rfl) rfl) ?_
              obtain ⟨h22, H⟩ := gif H
              refine seq_run2 (t_app tyL60 (fun _ => rfl) rfl rfl rfl ⟨by simp, by first | (simp; done) | simpa using h22⟩ rfl) rfl ?_
              refine seq_run0 (stp_assign (.row _ _) rfl) ?_
              exact ⟨(l20 ++ ([[72, 116, 116, 112, 79, 110, 108, 121]])), H, ⟨rfl, trivial⟩, ⟨rfl, trivial⟩⟩
            · replace H := iff_ h21 H
              refine awp_skip ?_
              exact ⟨l20, H, ⟨rfl, trivial⟩, ⟨rfl, trivial⟩⟩
          · rintro l23 H
            replace H : gateref2_CookieLine_J5 l23 = some r := H
            unfold gateref2_CookieLine_J5 at H
            refine awp_seq ?_
            refine t_freeze 3 2 rfl rfl rfl ?_
            refine awp_plain hN rfl ?_
            refine seq_run0 (stp_move (.dat _) rfl) ?_
            obtain ⟨r24, h25, H⟩ := bnd H
            refine seq_run0 (stp_call (k_strings_Join l23 [59, 32] r24 h25) ⟨.inl rfl, .inl rfl, trivial⟩) ?_
            refine seq_run0 (stp_assign (.dat _) rfl) ?_
            refine awp_ret ?_
            cases H
            exact ⟨trivial, .inl rfl, trivial⟩
theorem k_gatemake_Stream_Changed (s1 : S_gatemake_Stream) (t2 : Bs) (v3 : Bs) (r : (Bs × S_gatemake_Stream)) (H : m_gatemake_Stream_Changed s1 t2 v3 = some r) : Imp Tryz.prog 27 25 (C_gatemake_Stream s1) [vstr t2, vstr v3] (resOf [vstr r.1]) (C_gatemake_Stream r.2) := by
  refine imp_of (us := [vstr r.1]) (cs' := (C_gatemake_Stream r.2)) (by kernel_rfl) Tryz.func27 rfl rfl rfl rfl fun X bl hN => ?_
  unfold m_gatemake_Stream_Changed at H
  refine awp_seq ?_
  refine awp_plain hN rfl ?_
  refine seq_run0 (stp_assign (.dat _) rfl) ?_
  refine awp_seq ?_
  refine awp_seq ?_
  refine awp_plain hN rfl ?_
  refine seq_run0 (stp_move (.dat _) rfl) ?_
  refine seq_run0 (stp_seql rfl rfl) ?_
  refine seq_run0 (stp_move (.dat _) rfl) ?_
  refine seq_aF rfl rfl (fun hc => stp_move (.dat _) rfl) ?_
  refine seq_aF rfl rfl (fun hc => stp_seql (cnd (c := (!(decide (t2 = [])))) hc) rfl) ?_
  refine seq_run0 (stp_pick_or rfl rfl (fun hb => (cnd (c := (!(decide (t2 = [])))) (notI hb)))) ?_
  refine awp_cond _ rfl (fun h4 => ?_) (fun h4 => ?_)
  · replace H := ift h4 H
    refine awp_seq ?_
    refine awp_plain hN rfl ?_
    refine seq_run0 (stp_move (.dat _) rfl) ?_
    refine seq_run0 (stp_assign (.dat _) rfl) ?_
    refine awp_ret ?_
    cases H
    exact ⟨trivial, ⟨.inl rfl, trivial⟩, rfl⟩
  · replace H := iff_ h4 H
    refine awp_skip ?_
    refine awp_seq ?_
    refine awp_plain hN rfl ?_
    refine seq_run0 (stp_move (.ptr _ _) rfl) ?_
    refine seq_run0 (stp_move (.dat _) rfl) ?_
    refine seq_run0 (stp_len_str tyU9 rfl) ?_
    obtain ⟨r5, h6, H⟩ := bnd H
    refine seq_run2 (stp_imp (k_gatemake_Stream_Next s1 (t2.length : Int) r5 h6) rfl ⟨.inl rfl, trivial⟩ rfl) rfl ?_
    refine seq_run0 (stp_assign (.dat _) rfl) ?_
    refine awp_seq ?_
    refine awp_plain hN rfl ?_
    refine seq_run0 (stp_move (.dat _) rfl) ?_
    refine seq_run0 (stp_move (.ptr _ _) rfl) ?_
    refine seq_run0 (stp_move (.dat _) rfl) ?_
    refine seq_run0 (stp_len_str tyU9 rfl) ?_
    obtain ⟨r7, h8, H⟩ := bnd H
    refine seq_run2 (stp_imp (k_gatemake_Stream_Next r5.2 (v3.length : Int) r7 h8) rfl ⟨.inl rfl, trivial⟩ rfl) rfl ?_
    obtain ⟨x9, h10, H⟩ := bnd H
    refine seq_run0 (t_byteI tyU9 rfl rfl h10) ?_
    refine seq_run0 (stp_assign (.dat _) rfl) ?_
    refine awp_seq ?_
    refine awp_seq ?_
    refine awp_plain hN rfl ?_
    refine seq_run0 (stp_move (.ptr _ _) rfl) ?_
    obtain ⟨r11, h12, H⟩ := bnd H
    refine seq_run2 (stp_imp (k_gatemake_Stream_Next r7.2 3 r11 h12) rfl ⟨.inl rfl, trivial⟩ rfl) rfl ?_
    refine awp_block ?_
    refine awp_seq ?_
    refine awp_plain hN rfl ?_
    refine seq_run0 (stp_eql rfl rfl) ?_
    refine seq_run0 (stp_assign (.dat _) rfl) ?_
    refine awp_cond _ rfl (fun h13 => ?_) (fun h13 => ?_)
    · replace H := ift h13 H
      refine awp_seq ?_
      refine awp_draw mixed hN rfl rfl ?_
      refine seq_run0 (stp_move (.dat _) rfl) ?_
      refine seq_run0 (stp_move (.dat _) rfl) ?_
      obtain ⟨l14, h15, H⟩ := bnd H
      refine seq_run0 (t_subS tyU9 rfl rfl rfl h15) ?_
      refine seq_run0 (stp_move (.dat _) rfl) ?_
      refine seq_run0 (stp_conv tyU5 tyU21 rfl) ?_
      refine seq_run0 (stp_convR tyU21 rfl tyU9 rfl) ?_
      obtain ⟨h16, H⟩ := gif H
      refine seq_run0 (stp_sadd rfl rfl (Nat.le_trans h16 (by decide))) ?_
      refine seq_run0 (stp_move (.dat _) rfl) ?_
      refine seq_run0 (stp_move (.dat _) rfl) ?_
      refine seq_run0 (stp_wrap _ rfl rfl (.inl ⟨rfl, rfl⟩)) ?_
      obtain ⟨l17, h18, H⟩ := bnd H
      refine seq_run0 (t_subS tyU9 rfl rfl rfl h18) ?_
      obtain ⟨h19, H⟩ := gif H
      refine seq_run0 (stp_sadd rfl rfl (Nat.le_trans h19 (by decide))) ?_
      refine seq_run0 (stp_assign (.dat _) rfl) ?_
      refine ⟨rfl, ?_⟩
      refine awp_ret ?_
      cases H
      exact ⟨trivial, ⟨.inl rfl, trivial⟩, rfl⟩
    · replace H := iff_ h13 H
      refine awp_seq ?_
      refine awp_plain hN rfl ?_
      refine seq_run0 (stp_eql rfl rfl) ?_
      refine seq_run0 (stp_assign (.dat _) rfl) ?_
      refine awp_cond _ rfl (fun h20 => ?_) (fun h20 => ?_)
      · replace H := ift h20 H
        refine awp_seq ?_
        refine awp_draw mixed hN rfl rfl ?_
        refine seq_run0 (stp_move (.dat _) rfl) ?_
        refine seq_run0 (stp_move (.dat _) rfl) ?_
        obtain ⟨l21, h22, H⟩ := bnd H
        refine seq_run0 (t_subS tyU9 rfl rfl rfl h22) ?_
        refine seq_run0 (stp_move (.dat _) rfl) ?_
        refine seq_run0 (stp_conv tyU5 tyU21 rfl) ?_
        refine seq_run0 (stp_convR tyU21 rfl tyU9 rfl) ?_
        obtain ⟨h23, H⟩ := gif H
        refine seq_run0 (stp_sadd rfl rfl (Nat.le_trans h23 (by decide))) ?_
        refine seq_run0 (stp_move (.dat _) rfl) ?_
        refine seq_run0 (stp_move (.dat _) rfl) ?_
        obtain ⟨l24, h25, H⟩ := bnd H
        refine seq_run0 (t_subS tyU9 rfl rfl rfl h25) ?_
        obtain ⟨h26, H⟩ := gif H
        refine seq_run0 (stp_sadd rfl rfl (Nat.le_trans h26 (by decide))) ?_
        refine seq_run0 (stp_assign (.dat _) rfl) ?_
        refine ⟨rfl, ?_⟩
        refine awp_ret ?_
        cases H
        exact ⟨trivial, ⟨.inl rfl, trivial⟩, rfl⟩
      · replace H := iff_ h20 H
        refine awp_skip ?_
        refine awp_seq ?_
        refine awp_draw mixed hN rfl rfl ?_
        refine seq_run0 (stp_move (.dat _) rfl) ?_
        refine seq_run0 (stp_move (.dat _) rfl) ?_
        obtain ⟨l27, h28, H⟩ := bnd H
        refine seq_run0 (t_subS tyU9 rfl rfl rfl h28) ?_
        refine seq_run0 (stp_move (.dat _) rfl) ?_
        refine seq_run0 (stp_move (.dat _) rfl) ?_
        refine seq_run0 (stp_wrap _ rfl rfl (.inl ⟨rfl, rfl⟩)) ?_
        obtain ⟨l29, h30, H⟩ := bnd H
        refine seq_run0 (t_subS tyU9 rfl rfl rfl h30) ?_
        obtain ⟨h31, H⟩ := gif H
        refine seq_run0 (stp_sadd rfl rfl (Nat.le_trans h31 (by decide))) ?_
        refine seq_run0 (stp_assign (.dat _) rfl) ?_
        refine ⟨rfl, ?_⟩
        refine awp_ret ?_
        cases H
        exact ⟨trivial, ⟨.inl rfl, trivial⟩, rfl⟩
theorem k_gatemake_Stream_CookieString (s1 : S_gatemake_Stream) (r : (Bs × S_gatemake_Stream)) (H : m_gatemake_Stream_CookieString s1 = some r) : Imp Tryz.prog 6 25 (C_gatemake_Stream s1) [] (resOf [vstr r.1]) (C_gatemake_Stream r.2) := by
  refine imp_of (us := [vstr r.1]) (cs' := (C_gatemake_Stream r.2)) (by kernel_rfl) Tryz.func6 rfl rfl rfl rfl fun X bl hN => ?_
  unfold m_gatemake_Stream_CookieString at H
  refine awp_seq ?_
  refine awp_plain hN rfl ?_
  refine seq_run0 (stp_assign (.dat _) rfl) ?_
  refine awp_seq ?_
  refine awp_plain hN rfl ?_
  refine seq_run0 (stp_assign (.dat _) rfl) ?_
  refine awp_joinE (ι := Bs × (List Int) × Int) (fun i => [(0, .ptr 0 0), (3, .dat (vstr i.1))]) (fun i => [(0, .box (some bl) 25 [.dat (vlst (List.map C_int i.2.1)), .dat (vint i.2.2)])]) (fun i => gatemake_Stream_CookieString_J1 i.1 i.2.1 i.2.2 = some r) (fun i => rfl) ?_ ?_
  · skip
    refine awp_seq ?_
    refine awp_plain hN rfl ?_
    refine seq_run0 (stp_move (.ptr _ _) rfl) ?_
    obtain ⟨r2, h3, H⟩ := bnd H
    refine seq_run2 (stp_imp (k_gatemake_Stream_SetCookie s1 r2 h3) rfl trivial rfl) rfl ?_
    refine seq_run2 (stp_alloc 1 tyZ29 rfl) rfl ?_
    refine seq_run2 (stp_storeW tyS29 rfl rfl rfl rfl) rfl ?_
    refine awp_seq ?_
    refine awp_plain hN rfl ?_
    refine seq_run1 (stp_loadA tyS29 rfl rfl rfl) rfl ?_
    obtain ⟨r4, h5, H⟩ := bnd H
    refine seq_run0 (stp_call (k_gateref2_CookieFault r2.1 r4 h5) ⟨.inl rfl, trivial⟩) ?_
    refine seq_run0 (stp_eql rfl rfl) ?_
    refine awp_cond _ rfl (fun h6 => ?_) (fun h6 => ?_)
    · replace H := ift h6 H
      refine awp_plain hN rfl ?_
      refine seq_run1 (stp_loadA tyS29 rfl rfl rfl) rfl ?_
      obtain ⟨r7, h8, H⟩ := bnd H
      refine seq_run0 (stp_call (k_gateref2_CookieLine r2.1 r7 h8) ⟨.inl rfl, trivial⟩) ?_
      refine seq_run0 (stp_assign (.dat _) rfl) ?_
      exact ⟨(r7, r2.2.L, r2.2.at_), H, ⟨rfl, rfl, trivial⟩, ⟨rfl, trivial⟩⟩
    · replace H := iff_ h6 H
      refine awp_skip ?_
      exact ⟨([115, 61, 118], r2.2.L, r2.2.at_), H, ⟨rfl, rfl, trivial⟩, ⟨rfl, trivial⟩⟩
  · rintro ⟨t9, c10, c11⟩ H
    replace H : gatemake_Stream_CookieString_J1 t9 c10 c11 = some r := H
    unfold gatemake_Stream_CookieString_J1 at H
    refine awp_joinE (ι := Bs × (List Int) × Int) (fun i => [(0, .ptr 0 0), (3, .dat (vstr i.1))]) (fun i => [(0, .box (some bl) 25 [.dat (vlst (List.map C_int i.2.1)), .dat (vint i.2.2)])]) (fun i => gatemake_Stream_CookieString_J2 i.1 i.2.1 i.2.2 = some r) (fun i => rfl) ?_ ?_
    · skip
      refine awp_seq ?_
      refine awp_plain hN rfl ?_
      refine seq_run0 (stp_move (.ptr _ _) rfl) ?_
      obtain ⟨r12, h13, H⟩ := bnd H
      refine seq_run2 (stp_imp (k_gatemake_Stream_Flip (S_gatemake_Stream.mk c10 c11) 6 r12 h13) rfl ⟨.inl rfl, trivial⟩ rfl) rfl ?_
      refine awp_cond _ rfl (fun h14 => ?_) (fun h14 => ?_)
      · replace H := ift h14 H
        refine awp_plain hN rfl ?_
        refine seq_run0 (stp_move (.ptr _ _) rfl) ?_
        refine seq_run0 (stp_dat (u' := vlst (List.map C_string [[115, 61, 118, 59, 32, 83, 101, 99, 117, 114, 101, 59, 32, 80, 97, 116, 104, 61, 47], [115, 61, 118, 59, 32, 77, 97, 120, 45, 65, 103, 101, 61, 45, 49], [115, 61, 118, 59, 32, 77, 97, 120, 45, 65, 103, 101, 61, 48, 49], [115, 61, 118, 59, 32, 112, 97, 116, 104, 61, 47], [115, 61, 118, 59, 83, 101, 99, 117, 114, 101], [115, 61, 118, 59, 32, 83, 101, 99, 117, 114, 101, 59, 32, 83, 101, 99, 117, 114, 101], [115, 61, 118, 59, 32, 68, 111, 109, 97, 105, 110, 61], [115], [61, 118], [], [115, 61, 118, 59, 32, 72, 116, 116, 112, 79, 110, 108, 121, 59, 32], [115, 61, 118, 59, 32, 77, 97, 120, 45, 65, 103, 101, 61, 49, 48, 48, 48, 48, 48, 48, 48, 48, 48, 48, 48, 48, 48, 48, 49]])) (stp_lit [[_], [_], [_], [_], [_], [_], [_], [_], [_], [_], [_], [_]] tyL60 ⟨rfl, .inl ⟨_, rfl, rfl, rfl⟩, rfl, rfl, .inl ⟨_, rfl, rfl, rfl⟩, rfl, rfl, .inl ⟨_, rfl, rfl, rfl⟩, rfl, rfl, .inl ⟨_, rfl, rfl, rfl⟩, rfl, rfl, .inl ⟨_, rfl, rfl, rfl⟩, rfl, rfl, .inl ⟨_, rfl, rfl, rfl⟩, rfl, rfl, .inl ⟨_, rfl, rfl, rfl⟩, rfl, rfl, .inl ⟨_, rfl, rfl, rfl⟩, rfl, rfl, .inl ⟨_, rfl, rfl, rfl⟩, rfl, rfl, .inl ⟨_, rfl, rfl, rfl⟩, rfl, rfl, .inl ⟨_, rfl, rfl, rfl⟩, rfl, rfl, .inl ⟨_, rfl, rfl, rfl⟩, rfl, trivial⟩ rfl rfl) rfl) ?_
        obtain ⟨r15, h16, H⟩ := bnd H
        refine seq_run2 (stp_imp (k_gatemake_Stream_Some r12.2 ([[115, 61, 118, 59, 32, 83, 101, 99, 117, 114, 101, 59, 32, 80, 97, 116, 104, 61, 47], [115, 61, 118, 59, 32, 77, 97, 120, 45, 65, 103, 101, 61, 45, 49], [115, 61, 118, 59, 32, 77, 97, 120, 45, 65, 103, 101, 61, 48, 49], [115, 61, 118, 59, 32, 112, 97, 116, 104, 61, 47], [115, 61, 118, 59, 83, 101, 99, 117, 114, 101], [115, 61, 118, 59, 32, 83, 101, 99, 117, 114, 101, 59, 32, 83, 101, 99, 117, 114, 101], [115, 61, 118, 59, 32, 68, 111, 109, 97, 105, 110, 61], [115], [61, 118], [], [115, 61, 118, 59, 32, 72, 116, 116, 112, 79, 110, 108, 121, 59, 32], [115, 61, 118, 59, 32, 77, 97, 120, 45, 65, 103, 101, 61, 49, 48, 48, 48, 48, 48, 48, 48, 48, 48, 48, 48, 48, 48, 48, 49]]) r15 h16) rfl ⟨.inl rfl, trivial⟩ rfl) rfl ?_
        refine seq_run0 (stp_assign (.dat _) rfl) ?_
        exact ⟨(r15.1, r15.2.L, r15.2.at_), H, ⟨rfl, rfl, trivial⟩, ⟨rfl, trivial⟩⟩
      · replace H := iff_ h14 H
        refine awp_skip ?_
        exact ⟨(t9, r12.2.L, r12.2.at_), H, ⟨rfl, rfl, trivial⟩, ⟨rfl, trivial⟩⟩
    · rintro ⟨t17, c18, c19⟩ H
      replace H : gatemake_Stream_CookieString_J2 t17 c18 c19 = some r := H
      unfold gatemake_Stream_CookieString_J2 at H
      refine awp_seq ?_
      refine awp_seq ?_
      refine awp_plain hN rfl ?_
      refine seq_run0 (stp_move (.ptr _ _) rfl) ?_
      refine seq_run0 (stp_dat (u' := vlst (List.map C_int [0, 0, 1])) (stp_lit [[_], [_], [_]] tyL22 ⟨rfl, .inl ⟨_, rfl, rfl, rfl⟩, rfl, rfl, .inl ⟨_, rfl, rfl, rfl⟩, rfl, rfl, .inl ⟨_, rfl, rfl, rfl⟩, rfl, trivial⟩ rfl rfl) rfl) ?_
      obtain ⟨r20, h21, H⟩ := bnd H
      refine seq_run2 (stp_imp (k_gatemake_Stream_Pick (S_gatemake_Stream.mk c18 c19) [0, 0, 1] r20 h21) rfl ⟨.inl rfl, trivial⟩ rfl) rfl ?_
      refine seq_run0 (stp_move (.dat _) rfl) ?_
      refine awp_block ?_
      obtain ⟨h27, H⟩ := gif H
      refine awp_rng (fun (k25 : Nat) (s : Bs × (List Int) × Int) => [(0, .ptr 0 0), (3, .dat (vstr s.1)), (19, .dat (vint r20.1)), (20, .dat (vint (k25 : Int)))]) (fun (k25 : Nat) (s : Bs × (List Int) × Int) => [(0, .box (some bl) 25 [.dat (vlst (List.map C_int s.2.1)), .dat (vint s.2.2)])]) (t17, r20.2.L, r20.2.at_) H ⟨rfl, rfl, rfl, rfl, trivial⟩ ⟨rfl, trivial⟩ (fun _ _ => rfl) ?_ ?_
      · rintro ⟨t22, c23, c24⟩ H
        replace H : gatemake_Stream_CookieString_E3 t22 c23 c24 = some r := H
        unfold gatemake_Stream_CookieString_E3 at H
        refine awp_seq ?_
        refine awp_plain hN rfl ?_
        refine seq_run0 (stp_lss rfl rfl) ?_
        refine awp_seq ?_
        refine awp_cond _ rfl (fun h => (lt_tI h).elim) (fun h => ?_)
        refine awp_exit ?_
        refine awp_seq ?_
        refine awp_plain hN rfl ?_
        refine seq_run0 (stp_move (.dat _) rfl) ?_
        refine seq_run0 (stp_assign (.dat _) rfl) ?_
        refine awp_ret ?_
        cases H
        exact ⟨trivial, ⟨.inl rfl, trivial⟩, rfl⟩
      · rintro k25 ⟨t22, c23, c24⟩ q26 h28 H hq26
        replace H : gatemake_Stream_CookieString_L3 k25 t22 c23 c24 = some q26 := H
        unfold gatemake_Stream_CookieString_L3 at H
        refine awp_seq ?_
        refine awp_plain hN rfl ?_
        refine seq_run0 (stp_lss rfl rfl) ?_
        refine awp_seq ?_
        refine awp_cond _ rfl (fun h => ?_) (fun h => (lt_fI h28 h).elim)
        refine awp_skip ?_
        refine awp_seq ?_
        refine awp_block ?_
        refine awp_plain hN rfl ?_
        refine seq_run0 (stp_move (.ptr _ _) rfl) ?_
        refine seq_run0 (stp_move (.dat _) rfl) ?_
        obtain ⟨r29, h30, H⟩ := bnd H
        refine seq_run2 (stp_imp (k_gatemake_Stream_Changed (S_gatemake_Stream.mk c23 c24) t22 [59, 32, 61, 47, 83, 77, 97, 48] r29 h30) rfl ⟨.inl rfl, .inl rfl, trivial⟩ rfl) rfl ?_
        refine seq_run0 (stp_assign (.dat _) rfl) ?_
        refine awp_plain hN rfl ?_
        refine seq_run0 (stp_add rfl rfl (by omega)) ?_
        refine seq_run0 (stp_move (.dat _) rfl) ?_
        exact ⟨_, backl H, ⟨rfl, rfl, rfl, rfl, trivial⟩, ⟨rfl, trivial⟩⟩
theorem k_message_isLetter (c1 : Int) (r : (Bool)) (H : m_message_isLetter c1 = some r) : Fn Tryz.prog 102 [vval (.int .u8 c1)] (resOf [vbool r]) := by
  refine ⟨by kernel_rfl, pure_of (us := [vbool r]) Tryz.func102 rfl rfl rfl rfl fun X hN => ?_⟩
  unfold m_message_isLetter at H
  refine awp_seq ?_
  refine awp_plain hN rfl ?_
  refine seq_run0 (stp_assign (.dat _) rfl) ?_
  refine awp_seq ?_
  refine awp_plain hN rfl ?_
  refine seq_run0 (stp_move (.dat _) rfl) ?_
  refine seq_run0 (stp_geq rfl rfl) ?_
  refine seq_run0 (stp_move (.dat _) rfl) ?_
  refine seq_aT rfl rfl (fun hc => stp_move (.dat _) rfl) ?_
  refine seq_aT rfl rfl (fun hc => stp_leq (cnd (c := (decide (97 ≤ c1))) hc) rfl) ?_
  refine seq_run0 (stp_pick_and rfl (fun hb => (cnd (c := (decide (97 ≤ c1))) hb)) rfl) ?_
  refine seq_run0 (stp_move (.dat _) rfl) ?_
  refine seq_aF rfl rfl (fun hc => stp_move (.dat _) rfl) ?_
  refine seq_aF rfl rfl (fun hc => stp_geq (cnd (c := (!((decide (97 ≤ c1)) && (decide (c1 ≤ 122))))) hc) rfl) ?_
  refine seq_aF rfl rfl (fun hc => stp_move (.dat _) (cnd (c := (!((decide (97 ≤ c1)) && (decide (c1 ≤ 122))))) hc)) ?_
  refine seq_bT rfl rfl (fun hc => stp_move (.dat _) rfl) ?_
  refine seq_bT rfl rfl (fun hc => stp_leq (cnd (c := ((!((decide (97 ≤ c1)) && (decide (c1 ≤ 122)))) && (decide (65 ≤ c1)))) hc) rfl) ?_
  refine seq_aF rfl rfl (fun hc => stp_pick_and (cnd (c := (!((decide (97 ≤ c1)) && (decide (c1 ≤ 122))))) hc) (fun hb => (cnd (c := ((!((decide (97 ≤ c1)) && (decide (c1 ≤ 122)))) && (decide (65 ≤ c1)))) (andI hc hb))) rfl) ?_
  refine seq_run0 (stp_pick_or rfl rfl (fun hb => (cnd (c := (!((decide (97 ≤ c1)) && (decide (c1 ≤ 122))))) (notI hb)))) ?_
  refine seq_run0 (stp_assign (.dat _) rfl) ?_
  refine awp_ret ?_
  cases H
  exact ⟨trivial, .inl rfl, trivial⟩
theorem k_message_isDigit (c1 : Int) (r : (Bool)) (H : m_message_isDigit c1 = some r) : Fn Tryz.prog 103 [vval (.int .u8 c1)] (resOf [vbool r]) := by
  refine ⟨by kernel_rfl, pure_of (us := [vbool r]) Tryz.func103 rfl rfl rfl rfl fun X hN => ?_⟩
  unfold m_message_isDigit at H
  refine awp_seq ?_
  refine awp_plain hN rfl ?_
  refine seq_run0 (stp_assign (.dat _) rfl) ?_
  refine awp_seq ?_
  refine awp_plain hN rfl ?_
  refine seq_run0 (stp_move (.dat _) rfl) ?_
  refine seq_run0 (stp_geq rfl rfl) ?_
  refine seq_run0 (stp_move (.dat _) rfl) ?_
  refine seq_aT rfl rfl (fun hc => stp_move (.dat _) rfl) ?_
  refine seq_aT rfl rfl (fun hc => stp_leq (cnd (c := (decide (48 ≤ c1))) hc) rfl) ?_
  refine seq_run0 (stp_pick_and rfl (fun hb => (cnd (c := (decide (48 ≤ c1))) hb)) rfl) ?_
  refine seq_run0 (stp_assign (.dat _) rfl) ?_
  refine awp_ret ?_
  cases H
  exact ⟨trivial, .inl rfl, trivial⟩
theorem k_message_isTokenByte (c1 : Int) (r : (Bool)) (H : m_message_isTokenByte c1 = some r) : Fn Tryz.prog 73 [vval (.int .u8 c1)] (resOf [vbool r]) := by
  refine ⟨by kernel_rfl, pure_of (us := [vbool r]) Tryz.func73 rfl rfl rfl rfl fun X hN => ?_⟩
  unfold m_message_isTokenByte at H
  refine awp_seq ?_
  refine awp_plain hN rfl ?_
  refine seq_run0 (stp_assign (.dat _) rfl) ?_
  refine awp_joinE (ι := Bool) (fun i => [(2, .dat (vbool i))]) (fun i => []) (fun i => message_isTokenByte_J1 i = some r) (fun i => rfl) ?_ ?_
  · skip
    refine awp_plain hN rfl ?_
    refine seq_run0 (stp_move (.dat _) rfl) ?_
    obtain ⟨r2, h3, H⟩ := bnd H
    refine seq_run0 (stp_call (k_message_isLetter c1 r2 h3) ⟨.inl rfl, trivial⟩) ?_
    refine seq_run0 (stp_move (.dat _) rfl) ?_
    refine seq_split (j := 2) rfl rfl (fun h4 => ?_) (fun h4 => ?_) rfl
    · have h5 := un3 h4
      replace H := iff_ h5 H
      refine seq_g0 rfl rfl h4 (stp_move (.dat _) rfl) ?_
      obtain ⟨r6, h7, H⟩ := bnd H
      refine seq_g0 rfl rfl h4 (stp_call (k_message_isDigit c1 r6 h7) ⟨.inl rfl, trivial⟩) ?_
      refine seq_run0 (stp_pick_f rfl (bFF h5) rfl) ?_
      refine seq_run0 (stp_move (.dat _) rfl) ?_
      refine seq_split (j := 6) rfl rfl (fun h8 => ?_) (fun h8 => ?_) rfl
      · have h9 := un3 h8
        replace H := iff_ h9 H
        refine seq_g0 rfl rfl h8 (stp_move (.dat _) rfl) ?_
        obtain ⟨r10, h11, H⟩ := bnd H
        refine seq_g0 rfl rfl h8 (stp_call (k_strings_IndexByte [33, 35, 36, 37, 38, 39, 42, 43, 45, 46, 94, 95, 96, 124, 126] c1 r10 h11) ⟨.inl rfl, .inl rfl, trivial⟩) ?_
        refine seq_g0 rfl rfl h8 (stp_geq rfl rfl) ?_
        refine seq_run0 (stp_pick_f rfl (bFF h9) rfl) ?_
        refine seq_run0 (stp_assign (.dat _) rfl) ?_
        exact ⟨decide (0 ≤ r10), H, ⟨rfl, trivial⟩, trivial⟩
      · have h12 := un4 h8
        replace H := ift h12 H
        refine seq_skip rfl rfl h8 ?_
        refine seq_skip rfl rfl h8 ?_
        refine seq_skip rfl rfl h8 ?_
        refine seq_run0 (stp_pick_t rfl (bTT h12) rfl) ?_
        refine seq_run0 (stp_assign (.dat _) rfl) ?_
        exact ⟨true, H, ⟨rfl, trivial⟩, trivial⟩
    · have h13 := un4 h4
      replace H := ift h13 H
      refine seq_skip rfl rfl h4 ?_
      refine seq_skip rfl rfl h4 ?_
      refine seq_run0 (stp_pick_t rfl (bTT h13) rfl) ?_
      refine seq_run0 (stp_move (.dat _) rfl) ?_
      refine seq_skip rfl rfl rfl ?_
      refine seq_skip rfl rfl rfl ?_
      refine seq_skip rfl rfl rfl ?_
      refine seq_run0 (stp_pick_t rfl rfl rfl) ?_
      refine seq_run0 (stp_assign (.dat _) rfl) ?_
      exact ⟨true, H, ⟨rfl, trivial⟩, trivial⟩
  · rintro v14 H
    replace H : message_isTokenByte_J1 v14 = some r := H
    unfold message_isTokenByte_J1 at H
    refine awp_ret ?_
    cases H
    exact ⟨trivial, .inl rfl, trivial⟩
theorem k_message_IsToken (s1 : Bs) (r : (Bool)) (H : m_message_IsToken s1 = some r) : Fn Tryz.prog 33 [vstr s1] (resOf [vbool r]) := by
  refine ⟨by kernel_rfl, pure_of (us := [vbool r]) Tryz.func33 rfl rfl rfl rfl fun X hN => ?_⟩
  unfold m_message_IsToken at H
  refine awp_seq ?_
  refine awp_plain hN rfl ?_
  refine seq_run0 (stp_assign (.dat _) rfl) ?_
  refine awp_seq ?_
  refine awp_seq ?_
  refine awp_plain hN rfl ?_
  refine seq_run0 (stp_move (.dat _) rfl) ?_
  refine seq_run0 (stp_len_str tyU9 rfl) ?_
  refine seq_run0 (stp_move (.dat _) rfl) ?_
  refine awp_block ?_
  obtain ⟨h4, H⟩ := gif H
  refine awp_forL (fun (k2 : Nat) (s : Unit) => [(0, .dat (vstr s1)), (5, .dat (vint (s1.length : Int))), (6, .dat (vint (k2 : Int)))]) (fun (k2 : Nat) (s : Unit) => []) () H ⟨rfl, rfl, rfl, trivial⟩ trivial (fun _ _ => rfl) ?_ ?_
  · rintro ⟨⟩ H
    replace H : message_IsToken_E1 s1 = some r := H
    unfold message_IsToken_E1 at H
    refine awp_seq ?_
    refine awp_plain hN rfl ?_
    refine seq_run0 (stp_lss rfl rfl) ?_
    refine awp_seq ?_
    refine awp_cond _ rfl (fun h => (lt_t h).elim) (fun h => ?_)
    refine awp_exit ?_
    refine awp_seq ?_
    refine awp_plain hN rfl ?_
    refine seq_run0 (stp_move (.dat _) rfl) ?_
    refine seq_run0 (stp_sneq rfl rfl) ?_
    refine seq_run0 (stp_move (.dat _) rfl) ?_
    refine seq_aT rfl rfl (fun hc => stp_move (.dat _) rfl) ?_
    refine seq_aT rfl rfl (fun hc => stp_len_str tyU9 (cnd (c := (decide (s1 ≠ []))) hc)) ?_
    refine seq_aT rfl rfl (fun hc => stp_leq (cnd (c := (decide (s1 ≠ []))) hc) rfl) ?_
    refine seq_run0 (stp_pick_and rfl (fun hb => (cnd (c := (decide (s1 ≠ []))) hb)) rfl) ?_
    refine seq_run0 (stp_assign (.dat _) rfl) ?_
    refine awp_ret ?_
    cases H
    exact ⟨trivial, .inl rfl, trivial⟩
  · rintro k2 x5 ⟨⟩ q3 h6 h7 H hq3
    replace H : message_IsToken_L1 k2 x5 = some q3 := H
    unfold message_IsToken_L1 at H
    refine awp_seq ?_
    refine awp_plain hN rfl ?_
    refine seq_run0 (stp_lss rfl rfl) ?_
    refine awp_seq ?_
    refine awp_cond _ rfl (fun h => ?_) (fun h => (lt_f h6 h).elim)
    refine awp_skip ?_
    refine awp_seq ?_
    refine awp_block ?_
    refine awp_seq ?_
    refine awp_plain hN rfl ?_
    refine seq_run0 (stp_move (.dat _) rfl) ?_
    refine seq_run0 (stp_assign (.dat _) rfl) ?_
    refine awp_seq ?_
    refine awp_plain hN rfl ?_
    refine seq_run0 (stp_move (.dat _) rfl) ?_
    refine seq_run0 (stp_move (.dat _) rfl) ?_
    refine seq_run0 (t_byte tyU9 rfl rfl h7) ?_
    obtain ⟨r8, h9, H⟩ := bnd H
    refine seq_run0 (stp_call (k_message_isTokenByte (x5.toNat : Int) r8 h9) ⟨.inl rfl, trivial⟩) ?_
    refine seq_run0 (stp_not rfl) ?_
    refine awp_cond _ rfl (fun h10 => ?_) (fun h10 => ?_)
    · replace H := ift h10 H
      refine awp_seq ?_
      refine awp_plain hN rfl ?_
      refine seq_run0 (stp_assign (.dat _) rfl) ?_
      refine awp_ret ?_
      replace H := retl H hq3
      cases H
      exact ⟨trivial, .inl rfl, trivial⟩
    · replace H := iff_ h10 H
      refine awp_skip ?_
      refine awp_plain hN rfl ?_
      refine seq_run0 (stp_add rfl rfl (by omega)) ?_
      refine seq_run0 (stp_move (.dat _) rfl) ?_
      exact ⟨_, backl H, ⟨rfl, rfl, rfl, trivial⟩, trivial⟩
theorem k_message_isRange (s1 : Bs) (low2 : Int) (high3 : Int) (r : (Bool)) (H : m_message_isRange s1 low2 high3 = some r) : Fn Tryz.prog 79 [vstr s1, vval (.int .u8 low2), vval (.int .u8 high3)] (resOf [vbool r]) := by
  refine ⟨by kernel_rfl, pure_of (us := [vbool r]) Tryz.func79 rfl rfl rfl rfl fun X hN => ?_⟩
  unfold m_message_isRange at H
  refine awp_seq ?_
  refine awp_plain hN rfl ?_
  refine seq_run0 (stp_assign (.dat _) rfl) ?_
  refine awp_seq ?_
  refine awp_seq ?_
  refine awp_plain hN rfl ?_
  refine seq_run0 (stp_move (.dat _) rfl) ?_
  refine seq_run0 (stp_len_str tyU9 rfl) ?_
  refine seq_run0 (stp_move (.dat _) rfl) ?_
  refine awp_block ?_
  obtain ⟨h6, H⟩ := gif H
  refine awp_forL (fun (k4 : Nat) (s : Unit) => [(0, .dat (vstr s1)), (1, .dat (vval (.int .u8 low2))), (2, .dat (vval (.int .u8 high3))), (9, .dat (vint (s1.length : Int))), (10, .dat (vint (k4 : Int)))]) (fun (k4 : Nat) (s : Unit) => []) () H ⟨rfl, rfl, rfl, rfl, rfl, trivial⟩ trivial (fun _ _ => rfl) ?_ ?_
  · rintro ⟨⟩ H
    replace H : message_isRange_E1 = some r := H
    unfold message_isRange_E1 at H
    refine awp_seq ?_
    refine awp_plain hN rfl ?_
    refine seq_run0 (stp_lss rfl rfl) ?_
    refine awp_seq ?_
    refine awp_cond _ rfl (fun h => (lt_t h).elim) (fun h => ?_)
    refine awp_exit ?_
    refine awp_seq ?_
    refine awp_plain hN rfl ?_
    refine seq_run0 (stp_assign (.dat _) rfl) ?_
    refine awp_ret ?_
    cases H
    exact ⟨trivial, .inl rfl, trivial⟩
  · rintro k4 x7 ⟨⟩ q5 h8 h9 H hq5
    replace H : message_isRange_L1 low2 high3 k4 x7 = some q5 := H
    unfold message_isRange_L1 at H
    refine awp_seq ?_
    refine awp_plain hN rfl ?_
    refine seq_run0 (stp_lss rfl rfl) ?_
    refine awp_seq ?_
    refine awp_cond _ rfl (fun h => ?_) (fun h => (lt_f h8 h).elim)
    refine awp_skip ?_
    refine awp_seq ?_
    refine awp_block ?_
    refine awp_seq ?_
    refine awp_plain hN rfl ?_
    refine seq_run0 (stp_move (.dat _) rfl) ?_
    refine seq_run0 (stp_assign (.dat _) rfl) ?_
    refine awp_joinE (ι := Bool) (fun i => [(0, .dat (vstr s1)), (1, .dat (vval (.int .u8 low2))), (2, .dat (vval (.int .u8 high3))), (9, .dat (vint (s1.length : Int))), (10, .dat (vint (k4 : Int))), (24, .dat (vbool i))]) (fun i => []) (fun i => message_isRange_J2 i = some q5) (fun i => rfl) ?_ ?_
    · skip
      refine awp_plain hN rfl ?_
      refine seq_run0 (stp_move (.dat _) rfl) ?_
      refine seq_run0 (stp_move (.dat _) rfl) ?_
      refine seq_run0 (t_byte tyU9 rfl rfl h9) ?_
      refine seq_run0 (stp_move (.dat _) rfl) ?_
      refine seq_run0 (stp_lss rfl rfl) ?_
      refine seq_run0 (stp_move (.dat _) rfl) ?_
      refine seq_split (j := 5) rfl rfl (fun h10 => ?_) (fun h10 => ?_) rfl
      · have h11 := un3 h10
        replace H := iff_ h11 H
        refine seq_g0 rfl rfl h10 (stp_move (.dat _) rfl) ?_
        refine seq_g0 rfl rfl h10 (stp_move (.dat _) rfl) ?_
        refine seq_g0 rfl rfl h10 (t_byte tyU9 rfl rfl h9) ?_
        refine seq_g0 rfl rfl h10 (stp_move (.dat _) rfl) ?_
        refine seq_g0 rfl rfl h10 (stp_gtr rfl rfl) ?_
        refine seq_run0 (stp_pick_f rfl (bFF h11) rfl) ?_
        exact ⟨decide (high3 < (x7.toNat : Int)), H, ⟨rfl, rfl, rfl, rfl, rfl, rfl, trivial⟩, trivial⟩
      · have h12 := un4 h10
        replace H := ift h12 H
        refine seq_skip rfl rfl h10 ?_
        refine seq_skip rfl rfl h10 ?_
        refine seq_skip rfl rfl h10 ?_
        refine seq_skip rfl rfl h10 ?_
        refine seq_skip rfl rfl h10 ?_
        refine seq_run0 (stp_pick_t rfl (bTT h12) rfl) ?_
        exact ⟨true, H, ⟨rfl, rfl, rfl, rfl, rfl, rfl, trivial⟩, trivial⟩
    · rintro v13 H
      replace H : message_isRange_J2 v13 = some q5 := H
      unfold message_isRange_J2 at H
      refine awp_cond _ rfl (fun h14 => ?_) (fun h14 => ?_)
      · replace H := ift h14 H
        refine awp_seq ?_
        refine awp_plain hN rfl ?_
        refine seq_run0 (stp_assign (.dat _) rfl) ?_
        refine awp_ret ?_
        replace H := retl H hq5
        cases H
        exact ⟨trivial, .inl rfl, trivial⟩
      · replace H := iff_ h14 H
        refine awp_skip ?_
        refine awp_plain hN rfl ?_
        refine seq_run0 (stp_add rfl rfl (by omega)) ?_
        refine seq_run0 (stp_move (.dat _) rfl) ?_
        exact ⟨_, backl H, ⟨rfl, rfl, rfl, rfl, rfl, trivial⟩, trivial⟩
theorem k_message_IsField (s1 : Bs) (r : (Bool)) (H : m_message_IsField s1 = some r) : Fn Tryz.prog 40 [vstr s1] (resOf [vbool r]) := by
  refine ⟨by kernel_rfl, pure_of (us := [vbool r]) Tryz.func40 rfl rfl rfl rfl fun X hN => ?_⟩
  unfold m_message_IsField at H
  refine awp_seq ?_
  refine awp_plain hN rfl ?_
  refine seq_run0 (stp_assign (.dat _) rfl) ?_
  refine awp_joinE (ι := Bool) (fun i => [(2, .dat (vbool i))]) (fun i => []) (fun i => message_IsField_J1 i = some r) (fun i => rfl) ?_ ?_
  · skip
    refine awp_plain hN rfl ?_
    refine seq_run0 (stp_move (.dat _) rfl) ?_
    refine seq_run0 (stp_len_str tyU9 rfl) ?_
    refine seq_run0 (stp_leq rfl rfl) ?_
    refine seq_run0 (stp_move (.dat _) rfl) ?_
    refine seq_split (j := 3) rfl rfl (fun h2 => ?_) (fun h2 => ?_) rfl
    · have h3 := un1 h2
      replace H := ift h3 H
      refine seq_g0 rfl rfl h2 (stp_move (.dat _) rfl) ?_
      obtain ⟨r4, h5, H⟩ := bnd H
      refine seq_g0 rfl rfl h2 (stp_call (k_message_isRange s1 32 126 r4 h5) ⟨.inl rfl, .inl rfl, .inl rfl, trivial⟩) ?_
      refine seq_run0 (stp_pick_t rfl (bTT h3) rfl) ?_
      refine seq_run0 (stp_move (.dat _) rfl) ?_
      refine seq_split (j := 7) rfl rfl (fun h6 => ?_) (fun h6 => ?_) rfl
      · have h7 := un1 h6
        replace H := ift h7 H
        refine seq_g0 rfl rfl h6 (stp_move (.dat _) rfl) ?_
        obtain ⟨r8, h9, H⟩ := bnd H
        refine seq_g0 rfl rfl h6 (stp_call (k_strings_Trim s1 [32] r8 h9) ⟨.inl rfl, .inl rfl, trivial⟩) ?_
        refine seq_g0 rfl rfl h6 (stp_move (.dat _) rfl) ?_
        refine seq_g0 rfl rfl h6 (stp_seql rfl rfl) ?_
        refine seq_run0 (stp_pick_t rfl (bTT h7) rfl) ?_
        refine seq_run0 (stp_assign (.dat _) rfl) ?_
        exact ⟨decide (r8 = s1), H, ⟨rfl, trivial⟩, trivial⟩
      · have h10 := un2 h6
        replace H := iff_ h10 H
        refine seq_skip rfl rfl h6 ?_
        refine seq_skip rfl rfl h6 ?_
        refine seq_skip rfl rfl h6 ?_
        refine seq_skip rfl rfl h6 ?_
        refine seq_run0 (stp_pick_f rfl (bFF h10) rfl) ?_
        refine seq_run0 (stp_assign (.dat _) rfl) ?_
        exact ⟨false, H, ⟨rfl, trivial⟩, trivial⟩
    · have h11 := un2 h2
      replace H := iff_ h11 H
      refine seq_skip rfl rfl h2 ?_
      refine seq_skip rfl rfl h2 ?_
      refine seq_run0 (stp_pick_f rfl (bFF h11) rfl) ?_
      refine seq_run0 (stp_move (.dat _) rfl) ?_
      refine seq_skip rfl rfl rfl ?_
      refine seq_skip rfl rfl rfl ?_
      refine seq_skip rfl rfl rfl ?_
      refine seq_skip rfl rfl rfl ?_
      refine seq_run0 (stp_pick_f rfl rfl rfl) ?_
      refine seq_run0 (stp_assign (.dat _) rfl) ?_
      exact ⟨false, H, ⟨rfl, trivial⟩, trivial⟩
  · rintro v12 H
    replace H : message_IsField_J1 v12 = some r := H
    unfold message_IsField_J1 at H
    refine awp_ret ?_
    cases H
    exact ⟨trivial, .inl rfl, trivial⟩
theorem k_message_CheckHeaders (l1 : (List S_api_Header)) (r : (Int)) (H : m_message_CheckHeaders l1 = some r) : Fn Tryz.prog 28 [vlst (List.map C_api_Header l1)] (resOf [vint r]) := by
  refine ⟨by kernel_rfl, pure_of (us := [vint r]) Tryz.func28 rfl rfl rfl rfl fun X hN => ?_⟩
  unfold m_message_CheckHeaders at H
  refine awp_seq ?_
  refine awp_plain hN rfl ?_
  refine seq_run0 (stp_assign (.dat _) rfl) ?_
  refine awp_seq ?_
  refine awp_seq ?_
  refine awp_plain hN rfl ?_
  refine seq_run0 (stp_move (.dat _) rfl) ?_
  refine seq_run0 (t_len tyU26 rfl) ?_
  refine seq_run0 (stp_gtr rfl rfl) ?_
  refine awp_cond _ rfl (fun h2 => ?_) (fun h2 => ?_)
  · replace H := ift h2 H
    refine awp_seq ?_
    refine awp_plain hN rfl ?_
    refine seq_run0 (stp_assign (.dat _) rfl) ?_
    refine awp_ret ?_
    cases H
    exact ⟨trivial, .inl rfl, trivial⟩
  · replace H := iff_ h2 H
    refine awp_skip ?_
    refine awp_seq ?_
    refine awp_seq ?_
    refine awp_plain hN rfl ?_
    refine seq_run0 (stp_move (.dat _) rfl) ?_
    refine seq_run0 (t_len tyU26 rfl) ?_
    refine seq_run0 (stp_move (.dat _) rfl) ?_
    refine awp_block ?_
    obtain ⟨h5, H⟩ := gif H
    refine awp_forL (fun (k3 : Nat) (s : Unit) => [(8, .dat (vlst (List.map C_api_Header l1))), (9, .dat (vint (l1.length : Int))), (10, .dat (vint (k3 : Int)))]) (fun (k3 : Nat) (s : Unit) => []) () H ⟨rfl, rfl, rfl, trivial⟩ trivial (fun _ _ => rfl) ?_ ?_
    · rintro ⟨⟩ H
      replace H : message_CheckHeaders_E1 = some r := H
      unfold message_CheckHeaders_E1 at H
      refine awp_seq ?_
      refine awp_plain hN rfl ?_
      refine seq_run0 (stp_lss rfl rfl) ?_
      refine awp_seq ?_
      refine awp_cond _ rfl (fun h => (lt_t h).elim) (fun h => ?_)
      refine awp_exit ?_
      refine awp_seq ?_
      refine awp_plain hN rfl ?_
      refine seq_run0 (stp_assign (.dat _) rfl) ?_
      refine awp_ret ?_
      cases H
      exact ⟨trivial, .inl rfl, trivial⟩
    · rintro k3 x6 ⟨⟩ q4 h7 h8 H hq4
      replace H : message_CheckHeaders_L1 k3 x6 = some q4 := H
      unfold message_CheckHeaders_L1 at H
      refine awp_seq ?_
      refine awp_plain hN rfl ?_
      refine seq_run0 (stp_lss rfl rfl) ?_
      refine awp_seq ?_
      refine awp_cond _ rfl (fun h => ?_) (fun h => (lt_f h7 h).elim)
      refine awp_skip ?_
      refine awp_seq ?_
      refine awp_block ?_
      refine awp_seq ?_
      refine awp_plain hN rfl ?_
      refine seq_run0 (t_idx tyE26 (fun _ => rfl) rfl rfl h8) ?_
      refine seq_run0 (stp_loadEA tyS49 rfl (map_at h8) rfl) ?_
      refine seq_run2 (stp_alloc 1 tyZ49 rfl) rfl ?_
      refine seq_run2 (stp_storeW tyS49 rfl rfl rfl rfl) rfl ?_
      refine awp_seq ?_
      refine awp_seq ?_
      refine awp_plain hN rfl ?_
      refine seq_run0 (stp_fldP tyF49_0 rfl) ?_
      refine seq_run1 (stp_load1 tyS9 rfl rfl) rfl ?_
      obtain ⟨r9, h10, H⟩ := bnd H
      refine seq_run0 (stp_call (k_message_IsToken x6.Name r9 h10) ⟨.inl rfl, trivial⟩) ?_
      refine seq_run0 (stp_not rfl) ?_
      refine awp_cond _ rfl (fun h11 => ?_) (fun h11 => ?_)
      · replace H := ift h11 H
        refine awp_seq ?_
        refine awp_plain hN rfl ?_
        refine seq_run0 (stp_assign (.dat _) rfl) ?_
        refine awp_ret ?_
        replace H := retl H hq4
        cases H
        exact ⟨trivial, .inl rfl, trivial⟩
      · replace H := iff_ h11 H
        refine awp_skip ?_
        refine awp_seq ?_
        refine awp_plain hN rfl ?_
        refine seq_run0 (stp_fldP tyF49_1 rfl) ?_
        refine seq_run1 (stp_load1 tyS9 rfl rfl) rfl ?_
        obtain ⟨r12, h13, H⟩ := bnd H
        refine seq_run0 (stp_call (k_message_IsField x6.Value r12 h13) ⟨.inl rfl, trivial⟩) ?_
        refine seq_run0 (stp_not rfl) ?_
        refine awp_cond _ rfl (fun h14 => ?_) (fun h14 => ?_)
        · replace H := ift h14 H
          refine awp_seq ?_
          refine awp_plain hN rfl ?_
          refine seq_run0 (stp_assign (.dat _) rfl) ?_
          refine awp_ret ?_
          replace H := retl H hq4
          cases H
          exact ⟨trivial, .inl rfl, trivial⟩
        · replace H := iff_ h14 H
          refine awp_skip ?_
          refine awp_plain hN rfl ?_
          refine seq_run0 (stp_add rfl rfl (by omega)) ?_
          refine seq_run0 (stp_move (.dat _) rfl) ?_
          exact ⟨_, backl H, ⟨rfl, rfl, rfl, trivial⟩, trivial⟩
theorem k_strings_EqualFold (s t : Bs) (r : Bool) (H : m_strings_EqualFold s t = some r) : Fn Tryz.prog 95 [vstr s, vstr t] (resOf [vbool r]) := by
  unfold m_strings_EqualFold at H
  obtain ⟨⟨h1, h2, h3⟩, h4⟩ := gif H
  cases h4
  refine fn_of_callsG (by kernel_rfl) fun M w vs hM h => ?_
  have hv := Ts_vals (us := [.string ⟨s.toArray⟩, .string ⟨t.toArray⟩]) h
  subst hv
  refine (Tryz.strings_EqualFold ⟨s.toArray⟩ ⟨t.toArray⟩ w (by simp [ByteArray.size]; omega) (fun j b hb => ascB_at h2 j b (by simpa using hb)) (fun j b hb => ascB_at h3 j b (by simpa using hb))).mono ?_
  rintro e w' ⟨rfl, rfl⟩
  exact ⟨_, rfl, rfl, Kp.refl _ _⟩

theorem k_message_isNamed (h1 : S_api_Header) (name2 : Bs) (r : (Bool)) (H : m_message_isNamed h1 name2 = some r) : Fn Tryz.prog 63 [vagg (C_api_Header h1), vstr name2] (resOf [vbool r]) := by
  refine ⟨by kernel_rfl, pure_of (us := [vbool r]) Tryz.func63 rfl rfl rfl rfl fun X hN => ?_⟩
  unfold m_message_isNamed at H
  refine awp_seq ?_
  refine awp_plain hN rfl ?_
  refine seq_run2 (stp_boxA 1 rfl) rfl ?_
  refine seq_run0 (stp_assign (.dat _) rfl) ?_
  refine awp_seq ?_
  refine awp_plain hN rfl ?_
  refine seq_run0 (stp_fldP tyF49_0 rfl) ?_
  refine seq_run1 (stp_load1 tyS9 rfl rfl) rfl ?_
  refine seq_run0 (stp_move (.dat _) rfl) ?_
  obtain ⟨r3, h4, H⟩ := bnd H
  refine seq_run0 (stp_call (k_strings_EqualFold h1.Name name2 r3 h4) ⟨.inl rfl, .inl rfl, trivial⟩) ?_
  refine seq_run0 (stp_assign (.dat _) rfl) ?_
  refine awp_ret ?_
  cases H
  exact ⟨trivial, .inl rfl, trivial⟩
theorem k_message_Values (l1 : (List S_api_Header)) (name2 : Bs) (r : ((List Bs))) (H : m_message_Values l1 name2 = some r) : Fn Tryz.prog 29 [vlst (List.map C_api_Header l1), vstr name2] (resOf [vlst (List.map C_string r)]) := by
  refine ⟨by kernel_rfl, pure_of (us := [vlst (List.map C_string r)]) Tryz.func29 rfl rfl rfl rfl fun X hN => ?_⟩
  unfold m_message_Values at H
  refine awp_seq ?_
  refine awp_plain hN rfl ?_
  refine seq_run0 (stp_assign (.dat _) rfl) ?_
  refine awp_seq ?_
  refine awp_plain hN rfl ?_
  refine seq_run0 (stp_assign (.dat _) rfl) ?_
  refine awp_seq ?_
  refine awp_seq ?_
  refine awp_plain hN rfl ?_
  refine seq_run0 (stp_move (.dat _) rfl) ?_
  refine seq_run0 (t_len tyU26 rfl) ?_
  refine seq_run0 (stp_move (.dat _) rfl) ?_
  refine awp_block ?_
  refine awp_nilrow 5 1 9 1 rfl rfl rfl ?_
  obtain ⟨h6, H⟩ := gif H
  refine awp_forL (fun (k4 : Nat) (s : (List Bs)) => [(1, .dat (vstr name2)), (5, .row 1 s.length), (8, .dat (vlst (List.map C_api_Header l1))), (9, .dat (vint (l1.length : Int))), (10, .dat (vint (k4 : Int)))]) (fun (k4 : Nat) (s : (List Bs)) => [(1, .row 9 1 (List.map C_string s))]) [] H ⟨rfl, congrArg (Slot.row 1) (by simp), rfl, rfl, rfl, trivial⟩ ⟨rfl, trivial⟩ (fun _ _ => rfl) ?_ ?_
  · rintro l3 H
    replace H : message_Values_E1 l3 = some r := H
    unfold message_Values_E1 at H
    refine awp_seq ?_
    refine awp_plain hN rfl ?_
    refine seq_run0 (stp_lss rfl rfl) ?_
    refine awp_seq ?_
    refine awp_cond _ rfl (fun h => (lt_t h).elim) (fun h => ?_)
    refine awp_exit ?_
    refine awp_seq ?_
    refine awp_plain hN rfl ?_
    refine seq_run0 (stp_move (.row _ _) rfl) ?_
    refine seq_run0 (stp_assign (.row _ _) rfl) ?_
    refine awp_ret ?_
    cases H
    exact ⟨trivial, t_slotv rfl rfl, trivial⟩
  · rintro k4 x7 l3 q5 h8 h9 H hq5
    replace H : message_Values_L1 name2 k4 x7 l3 = some q5 := H
    unfold message_Values_L1 at H
    refine awp_seq ?_
    refine awp_plain hN rfl ?_
    refine seq_run0 (stp_lss rfl rfl) ?_
    refine awp_seq ?_
    refine awp_cond _ rfl (fun h => ?_) (fun h => (lt_f h8 h).elim)
    refine awp_skip ?_
    refine awp_joinE (ι := (List Bs)) (fun i => [(1, .dat (vstr name2)), (5, .row 1 i.length), (8, .dat (vlst (List.map C_api_Header l1))), (9, .dat (vint (l1.length : Int))), (10, .dat (vint (k4 : Int)))]) (fun i => [(1, .row 9 1 (List.map C_string i))]) (fun i => message_Values_J2 i = some q5) (fun i => rfl) ?_ ?_
    · skip
      refine awp_block ?_
      refine awp_seq ?_
      refine awp_plain hN rfl ?_
      refine seq_run0 (t_idx tyE26 (fun _ => rfl) rfl rfl h9) ?_
      refine seq_run0 (stp_loadEA tyS49 rfl (map_at h9) rfl) ?_
      refine seq_run2 (stp_alloc 2 tyZ49 rfl) rfl ?_
      refine seq_run2 (stp_storeW tyS49 rfl rfl rfl rfl) rfl ?_
      refine awp_seq ?_
      refine awp_plain hN rfl ?_
      refine seq_run1 (stp_loadA tyS49 rfl rfl rfl) rfl ?_
      refine seq_run0 (stp_move (.dat _) rfl) ?_
      obtain ⟨r10, h11, H⟩ := bnd H
      refine seq_run0 (stp_call (k_message_isNamed x7 name2 r10 h11) ⟨.inl rfl, .inl rfl, trivial⟩) ?_
      refine awp_cond _ rfl (fun h12 => ?_) (fun h12 => ?_)
      · replace H := ift h12 H
        refine awp_plain hN rfl ?_
        refine seq_run0 (stp_move (.row _ _) rfl) ?_
        refine seq_run0 (stp_fldP tyF49_1 rfl) ?_
        refine seq_run1 (stp_load1 tyS9 rfl rfl) rfl ?_
        refine seq_run0 (stp_dat (u' := vlst (List.map C_string [x7.Value])) (stp_lit [[_]] tyL60 ⟨rfl, .inl ⟨_, rfl, rfl, rfl⟩, rfl, trivial⟩ rfl rfl) rfl) ?_
        obtain ⟨h13, H⟩ := gif H
        refine seq_run2 (t_app tyL60 (fun _ => rfl) rfl rfl rfl ⟨by simp, by first | (simp; done) | simpa using h13⟩ rfl) rfl ?_
        refine seq_run0 (stp_assign (.row _ _) rfl) ?_
        exact ⟨(l3 ++ [x7.Value]), H, ⟨rfl, rfl, rfl, rfl, rfl, trivial⟩, ⟨rfl, trivial⟩⟩
      · replace H := iff_ h12 H
        refine awp_skip ?_
        exact ⟨l3, H, ⟨rfl, rfl, rfl, rfl, rfl, trivial⟩, ⟨rfl, trivial⟩⟩
    · rintro out14 H
      replace H : message_Values_J2 out14 = some q5 := H
      unfold message_Values_J2 at H
      refine awp_plain hN rfl ?_
      refine seq_run0 (stp_add rfl rfl (by omega)) ?_
      refine seq_run0 (stp_move (.dat _) rfl) ?_
      exact ⟨_, backl H, ⟨rfl, rfl, rfl, rfl, rfl, trivial⟩, ⟨rfl, trivial⟩⟩
theorem k_message_isCookieValue (s1 : Bs) (r : (Bool)) (H : m_message_isCookieValue s1 = some r) : Fn Tryz.prog 34 [vstr s1] (resOf [vbool r]) := by
  refine ⟨by kernel_rfl, pure_of (us := [vbool r]) Tryz.func34 rfl rfl rfl rfl fun X hN => ?_⟩
  unfold m_message_isCookieValue at H
  refine awp_seq ?_
  refine awp_plain hN rfl ?_
  refine seq_run0 (stp_assign (.dat _) rfl) ?_
  refine awp_seq ?_
  refine awp_plain hN rfl ?_
  refine seq_run0 (stp_move (.dat _) rfl) ?_
  obtain ⟨r2, h3, H⟩ := bnd H
  refine seq_run0 (stp_call (k_strings_ContainsAny s1 [34, 44, 59, 92, 32] r2 h3) ⟨.inl rfl, .inl rfl, trivial⟩) ?_
  refine seq_run0 (stp_not rfl) ?_
  refine seq_run0 (stp_assign (.dat _) rfl) ?_
  refine awp_ret ?_
  cases H
  exact ⟨trivial, .inl rfl, trivial⟩
theorem k_message_Cookies (v1 : (List S_api_Header)) (r : ((List S_api_Pair) × Int)) (H : m_message_Cookies v1 = some r) : Fn Tryz.prog 7 [vlst (List.map C_api_Header v1)] (resOf [vlst (List.map C_api_Pair r.1), vint r.2]) := by
  refine ⟨by kernel_rfl, pure_of (us := [vlst (List.map C_api_Pair r.1), vint r.2]) Tryz.func7 rfl rfl rfl rfl fun X hN => ?_⟩
  unfold m_message_Cookies at H
  refine awp_seq ?_
  refine awp_plain hN rfl ?_
  refine seq_run0 (stp_assign (.dat _) rfl) ?_
  refine seq_run0 (stp_assign (.dat _) rfl) ?_
  refine awp_seq ?_
  refine awp_seq ?_
  refine awp_plain hN rfl ?_
  refine seq_run0 (stp_move (.dat _) rfl) ?_
  obtain ⟨r2, h3, H⟩ := bnd H
  refine seq_run0 (stp_call (k_message_CheckHeaders v1 r2 h3) ⟨.inl rfl, trivial⟩) ?_
  refine seq_run0 (stp_assign (.dat _) rfl) ?_
  refine awp_seq ?_
  refine awp_plain hN rfl ?_
  refine seq_run0 (stp_move (.dat _) rfl) ?_
  refine seq_run0 (stp_neq rfl rfl) ?_
  refine awp_cond _ rfl (fun h4 => ?_) (fun h4 => ?_)
  · replace H := ift h4 H
    refine awp_seq ?_
    refine awp_plain hN rfl ?_
    refine seq_run0 (stp_move (.dat _) rfl) ?_
    refine seq_run0 (stp_assign (.dat _) rfl) ?_
    refine seq_run0 (stp_assign (.dat _) rfl) ?_
    refine awp_ret ?_
    cases H
    exact ⟨trivial, .inr ⟨rfl, rfl⟩, .inl rfl, trivial⟩
  · replace H := iff_ h4 H
    refine awp_skip ?_
    refine awp_seq ?_
    refine awp_plain hN rfl ?_
    refine seq_run0 (stp_assign (.dat _) rfl) ?_
    refine awp_seq ?_
    refine awp_seq ?_
    refine awp_plain hN rfl ?_
    refine seq_run0 (stp_move (.dat _) rfl) ?_
    obtain ⟨r5, h6, H⟩ := bnd H
    refine seq_run0 (stp_call (k_message_Values v1 [99, 111, 111, 107, 105, 101] r5 h6) ⟨.inl rfl, .inl rfl, trivial⟩) ?_
    refine seq_run0 (t_len tyU60 rfl) ?_
    refine seq_run0 (stp_move (.dat _) rfl) ?_
    refine awp_block ?_
    refine awp_nilrow 5 1 44 2 rfl rfl rfl ?_
    obtain ⟨h10, H⟩ := gif H
    refine awp_forL (fun (k8 : Nat) (s : (List S_api_Pair)) => [(5, .row 1 s.length), (19, .dat (vlst (List.map C_string r5))), (20, .dat (vint (r5.length : Int))), (21, .dat (vint (k8 : Int)))]) (fun (k8 : Nat) (s : (List S_api_Pair)) => [(1, .row 44 2 (List.map C_api_Pair s))]) [] H ⟨congrArg (Slot.row 1) (by simp), rfl, rfl, rfl, trivial⟩ ⟨rfl, trivial⟩ (fun _ _ => rfl) ?_ ?_
    · rintro l7 H
      replace H : message_Cookies_E1 l7 = some r := H
      unfold message_Cookies_E1 at H
      refine awp_seq ?_
      refine awp_plain hN rfl ?_
      refine seq_run0 (stp_lss rfl rfl) ?_
      refine awp_seq ?_
      refine awp_cond _ rfl (fun h => (lt_t h).elim) (fun h => ?_)
      refine awp_exit ?_
      refine awp_seq ?_
      refine awp_seq ?_
      refine awp_plain hN rfl ?_
      refine seq_run0 (stp_move (.row _ _) rfl) ?_
      refine seq_run1 (t_lenR tyU32 rfl rfl) rfl ?_
      refine seq_run0 (stp_gtr rfl rfl) ?_
      refine awp_cond _ rfl (fun h12 => ?_) (fun h12 => ?_)
      · replace H := ift h12 H
        refine awp_seq ?_
        refine awp_plain hN rfl ?_
        refine seq_run0 (stp_assign (.dat _) rfl) ?_
        refine seq_run0 (stp_assign (.dat _) rfl) ?_
        refine awp_ret ?_
        cases H
        exact ⟨trivial, .inr ⟨rfl, rfl⟩, .inl rfl, trivial⟩
      · replace H := iff_ h12 H
        refine awp_skip ?_
        refine awp_seq ?_
        refine awp_plain hN rfl ?_
        refine seq_run0 (stp_move (.row _ _) rfl) ?_
        refine seq_run0 (stp_assign (.row _ _) rfl) ?_
        refine seq_run0 (stp_assign (.dat _) rfl) ?_
        refine awp_ret ?_
        cases H
        exact ⟨trivial, t_slotv rfl rfl, .inl rfl, trivial⟩
    · rintro k8 x11 l7 q9 h13 h14 H hq9
      replace H : message_Cookies_L1 k8 x11 l7 = some q9 := H
      unfold message_Cookies_L1 at H
      refine awp_seq ?_
      refine awp_plain hN rfl ?_
      refine seq_run0 (stp_lss rfl rfl) ?_
      refine awp_seq ?_
      refine awp_cond _ rfl (fun h => ?_) (fun h => (lt_f h13 h).elim)
      refine awp_skip ?_
      refine awp_seq ?_
      refine awp_block ?_
      refine awp_seq ?_
      refine awp_plain hN rfl ?_
      refine seq_run0 (t_idx tyE60 (fun _ => rfl) rfl rfl h14) ?_
      refine seq_run0 (stp_loadE1 tyS9 rfl (map_at h14) rfl) ?_
      refine seq_run0 (stp_assign (.dat _) rfl) ?_
      refine awp_seq ?_
      refine awp_plain hN rfl ?_
      refine seq_run0 (stp_move (.dat _) rfl) ?_
      obtain ⟨r15, h16, H⟩ := bnd H
      refine seq_run0 (stp_call (k_strings_Split x11 [59] r15 h16) ⟨.inl rfl, .inl rfl, trivial⟩) ?_
      refine seq_run0 (t_len tyU60 rfl) ?_
      refine seq_run0 (stp_move (.dat _) rfl) ?_
      refine awp_block ?_
      obtain ⟨h20, H⟩ := gif H
      refine awp_forL (fun (k18 : Nat) (s : (List S_api_Pair)) => [(5, .row 1 s.length), (19, .dat (vlst (List.map C_string r5))), (20, .dat (vint (r5.length : Int))), (21, .dat (vint (k8 : Int))), (26, .dat (vlst (List.map C_string r15))), (27, .dat (vint (r15.length : Int))), (28, .dat (vint (k18 : Int)))]) (fun (k18 : Nat) (s : (List S_api_Pair)) => [(1, .row 44 2 (List.map C_api_Pair s))]) l7 H ⟨rfl, rfl, rfl, rfl, rfl, rfl, rfl, trivial⟩ ⟨rfl, trivial⟩ (fun _ _ => rfl) ?_ ?_
      · rintro l17 H
        replace H : message_Cookies_E2 l17 = some q9 := H
        unfold message_Cookies_E2 at H
        refine awp_seq ?_
        refine awp_plain hN rfl ?_
        refine seq_run0 (stp_lss rfl rfl) ?_
        refine awp_seq ?_
        refine awp_cond _ rfl (fun h => (lt_t h).elim) (fun h => ?_)
        refine awp_exit ?_
        refine awp_plain hN rfl ?_
        refine seq_run0 (stp_add rfl rfl (by omega)) ?_
        refine seq_run0 (stp_move (.dat _) rfl) ?_
        exact ⟨_, backl H, ⟨rfl, rfl, rfl, rfl, trivial⟩, ⟨rfl, trivial⟩⟩
      · rintro k18 x21 l17 q19 h22 h23 H hq19
        replace H : message_Cookies_L2 k18 x21 l17 = some q19 := H
        unfold message_Cookies_L2 at H
        refine awp_seq ?_
        refine awp_plain hN rfl ?_
        refine seq_run0 (stp_lss rfl rfl) ?_
        refine awp_seq ?_
        refine awp_cond _ rfl (fun h => ?_) (fun h => (lt_f h22 h).elim)
        refine awp_skip ?_
        refine awp_joinE (ι := (List S_api_Pair)) (fun i => [(5, .row 1 i.length), (19, .dat (vlst (List.map C_string r5))), (20, .dat (vint (r5.length : Int))), (21, .dat (vint (k8 : Int))), (26, .dat (vlst (List.map C_string r15))), (27, .dat (vint (r15.length : Int))), (28, .dat (vint (k18 : Int)))]) (fun i => [(1, .row 44 2 (List.map C_api_Pair i))]) (fun i => message_Cookies_J3 i = some q19) (fun i => rfl) ?_ ?_
        · skip
          refine awp_block ?_
          refine awp_seq ?_
          refine awp_plain hN rfl ?_
          refine seq_run0 (t_idx tyE60 (fun _ => rfl) rfl rfl h23) ?_
          refine seq_run0 (stp_loadE1 tyS9 rfl (map_at h23) rfl) ?_
          refine seq_run0 (stp_assign (.dat _) rfl) ?_
          refine awp_seq ?_
          refine awp_seq ?_
          refine awp_plain hN rfl ?_
          refine seq_run0 (stp_move (.dat _) rfl) ?_
          obtain ⟨r24, h25, H⟩ := bnd H
          refine seq_run0 (stp_call (k_strings_Trim x21 [32] r24 h25) ⟨.inl rfl, .inl rfl, trivial⟩) ?_
          refine seq_run0 (stp_assign (.dat _) rfl) ?_
          refine awp_seq ?_
          refine awp_plain hN rfl ?_
          refine seq_run0 (stp_move (.dat _) rfl) ?_
          refine seq_run0 (stp_seql rfl rfl) ?_
          refine awp_cond _ rfl (fun h26 => ?_) (fun h26 => ?_)
          · replace H := ift h26 H
            refine awp_exit ?_
            exact ⟨l17, H, ⟨rfl, rfl, rfl, rfl, rfl, rfl, rfl, trivial⟩, ⟨rfl, trivial⟩⟩
          · replace H := iff_ h26 H
            refine awp_skip ?_
            refine awp_seq ?_
            refine awp_plain hN rfl ?_
            refine seq_run0 (stp_move (.dat _) rfl) ?_
            obtain ⟨r27, h28, H⟩ := bnd H
            refine seq_run0 (stp_call (k_strings_Cut r24 [61] r27 h28) ⟨.inl rfl, .inl rfl, trivial⟩) ?_
            refine seq_run0 (stp_move (.dat _) rfl) ?_
            refine seq_run0 (stp_ext rfl rfl) ?_
            refine seq_run0 (stp_ext rfl rfl) ?_
            refine seq_run0 (stp_ext rfl rfl) ?_
            refine seq_run0 (stp_assign (.dat _) rfl) ?_
            refine seq_run0 (stp_assign (.dat _) rfl) ?_
            refine seq_run0 (stp_assign (.dat _) rfl) ?_
            refine awp_seq ?_
            refine awp_joinE (ι := Bool) (fun i => [(5, .row 1 l17.length), (10, .dat (vstr r27.1)), (11, .dat (vstr r27.2.1)), (19, .dat (vlst (List.map C_string r5))), (20, .dat (vint (r5.length : Int))), (21, .dat (vint (k8 : Int))), (26, .dat (vlst (List.map C_string r15))), (27, .dat (vint (r15.length : Int))), (28, .dat (vint (k18 : Int))), (53, .dat (vbool i))]) (fun i => [(1, .row 44 2 (List.map C_api_Pair l17))]) (fun i => message_Cookies_J4 l17 r27 i = some q19) (fun i => rfl) ?_ ?_
            · skip
              refine awp_plain hN rfl ?_
              refine seq_run0 (stp_move (.dat _) rfl) ?_
              refine seq_run0 (stp_not rfl) ?_
              refine seq_run0 (stp_move (.dat _) rfl) ?_
              refine seq_split (j := 2) rfl rfl (fun h29 => ?_) (fun h29 => ?_) rfl
              · have h30 := un3 h29
                replace H := iff_ h30 H
                refine seq_g0 rfl rfl h29 (stp_move (.dat _) rfl) ?_
                obtain ⟨r31, h32, H⟩ := bnd H
                refine seq_g0 rfl rfl h29 (stp_call (k_message_IsToken r27.1 r31 h32) ⟨.inl rfl, trivial⟩) ?_
                refine seq_g0 rfl rfl h29 (stp_not rfl) ?_
                refine seq_run0 (stp_pick_f rfl (bFF h30) rfl) ?_
                refine seq_run0 (stp_move (.dat _) rfl) ?_
                refine seq_split (j := 7) rfl rfl (fun h33 => ?_) (fun h33 => ?_) rfl
                · have h34 := un3 h33
                  replace H := iff_ h34 H
                  refine seq_g0 rfl rfl h33 (stp_move (.dat _) rfl) ?_
                  obtain ⟨r35, h36, H⟩ := bnd H
                  refine seq_g0 rfl rfl h33 (stp_call (k_message_isCookieValue r27.2.1 r35 h36) ⟨.inl rfl, trivial⟩) ?_
                  refine seq_g0 rfl rfl h33 (stp_not rfl) ?_
                  refine seq_run0 (stp_pick_f rfl (bFF h34) rfl) ?_
                  exact ⟨!r35, H, ⟨rfl, rfl, rfl, rfl, rfl, rfl, rfl, rfl, rfl, rfl, trivial⟩, ⟨rfl, trivial⟩⟩
                · have h37 := un4 h33
                  replace H := ift h37 H
                  refine seq_skip rfl rfl h33 ?_
                  refine seq_skip rfl rfl h33 ?_
                  refine seq_skip rfl rfl h33 ?_
                  refine seq_run0 (stp_pick_t rfl (bTT h37) rfl) ?_
                  exact ⟨true, H, ⟨rfl, rfl, rfl, rfl, rfl, rfl, rfl, rfl, rfl, rfl, trivial⟩, ⟨rfl, trivial⟩⟩
              · have h38 := un4 h29
                replace H := ift h38 H
                refine seq_skip rfl rfl h29 ?_
                refine seq_skip rfl rfl h29 ?_
                refine seq_skip rfl rfl h29 ?_
                refine seq_run0 (stp_pick_t rfl (bTT h38) rfl) ?_
                refine seq_run0 (stp_move (.dat _) rfl) ?_
                refine seq_skip rfl rfl rfl ?_
                refine seq_skip rfl rfl rfl ?_
                refine seq_skip rfl rfl rfl ?_
                refine seq_run0 (stp_pick_t rfl rfl rfl) ?_
                exact ⟨true, H, ⟨rfl, rfl, rfl, rfl, rfl, rfl, rfl, rfl, rfl, rfl, trivial⟩, ⟨rfl, trivial⟩⟩
            · rintro v39 H
              replace H : message_Cookies_J4 l17 r27 v39 = some q19 := H
              unfold message_Cookies_J4 at H
              refine awp_cond _ rfl (fun h40 => ?_) (fun h40 => ?_)
              · replace H := ift h40 H
                refine awp_seq ?_
                refine awp_plain hN rfl ?_
                refine seq_run0 (stp_assign (.dat _) rfl) ?_
                refine seq_run0 (stp_assign (.dat _) rfl) ?_
                refine awp_ret ?_
                replace H := retl H hq19
                replace H := retl H hq9
                cases H
                exact ⟨trivial, .inr ⟨rfl, rfl⟩, .inl rfl, trivial⟩
              · replace H := iff_ h40 H
                refine awp_skip ?_
                refine awp_plain hN rfl ?_
                refine seq_run0 (stp_move (.row _ _) rfl) ?_
                refine seq_run0 (stp_move (.dat _) rfl) ?_
                refine seq_run0 (stp_move (.dat _) rfl) ?_
                refine seq_run0 (stp_dat (u' := vagg (C_api_Pair (S_api_Pair.mk r27.1 r27.2.1))) (stp_build [(0, [vstr r27.1]), (1, [vstr r27.2.1])] tyZ44 tyP44 rfl ⟨rfl, .inl ⟨_, rfl, rfl, rfl⟩, rfl, rfl, .inl ⟨_, rfl, rfl, rfl⟩, rfl, trivial⟩) rfl) ?_
                refine seq_run0 (stp_dat (u' := vlst (List.map C_api_Pair [(S_api_Pair.mk r27.1 r27.2.1)])) (stp_lit [_] tyL32 ⟨rfl, .inr rfl, rfl, trivial⟩ rfl rfl) rfl) ?_
                obtain ⟨h41, H⟩ := gif H
                refine seq_run2 (t_app tyL32 (fun _ => rfl) rfl rfl rfl ⟨by simp, by first | (simp; done) | simpa using h41⟩ rfl) rfl ?_
                refine seq_run0 (stp_assign (.row _ _) rfl) ?_
                exact ⟨(l17 ++ [(S_api_Pair.mk r27.1 r27.2.1)]), H, ⟨rfl, rfl, rfl, rfl, rfl, rfl, rfl, trivial⟩, ⟨rfl, trivial⟩⟩
        · rintro v42 H
          replace H : message_Cookies_J3 v42 = some q19 := H
          unfold message_Cookies_J3 at H
          refine awp_plain hN rfl ?_
          refine seq_run0 (stp_add rfl rfl (by omega)) ?_
          refine seq_run0 (stp_move (.dat _) rfl) ?_
          exact ⟨_, backl H, ⟨rfl, rfl, rfl, rfl, rfl, rfl, rfl, trivial⟩, ⟨rfl, trivial⟩⟩
theorem k_gateref2_HeadersFault (l1 : (List S_api_Header)) (r : (Int)) (H : m_gateref2_HeadersFault l1 = some r) : Fn Tryz.prog 35 [vlst (List.map C_api_Header l1)] (resOf [vint r]) := by
  refine ⟨by kernel_rfl, pure_of (us := [vint r]) Tryz.func35 rfl rfl rfl rfl fun X hN => ?_⟩
  unfold m_gateref2_HeadersFault at H
  refine awp_seq ?_
  refine awp_plain hN rfl ?_
  refine seq_run0 (stp_assign (.dat _) rfl) ?_
  refine awp_seq ?_
  refine awp_seq ?_
  refine awp_plain hN rfl ?_
  refine seq_run0 (stp_move (.dat _) rfl) ?_
  refine seq_run0 (t_len tyU26 rfl) ?_
  refine seq_run0 (stp_gtr rfl rfl) ?_
  refine awp_cond _ rfl (fun h2 => ?_) (fun h2 => ?_)
  · replace H := ift h2 H
    refine awp_seq ?_
    refine awp_plain hN rfl ?_
    refine seq_run0 (stp_assign (.dat _) rfl) ?_
    refine awp_ret ?_
    cases H
    exact ⟨trivial, .inl rfl, trivial⟩
  · replace H := iff_ h2 H
    refine awp_skip ?_
    refine awp_seq ?_
    refine awp_seq ?_
    refine awp_plain hN rfl ?_
    refine seq_run0 (stp_move (.dat _) rfl) ?_
    refine seq_run0 (t_len tyU26 rfl) ?_
    refine seq_run0 (stp_move (.dat _) rfl) ?_
    refine awp_block ?_
    obtain ⟨h5, H⟩ := gif H
    refine awp_forL (fun (k3 : Nat) (s : Unit) => [(8, .dat (vlst (List.map C_api_Header l1))), (9, .dat (vint (l1.length : Int))), (10, .dat (vint (k3 : Int)))]) (fun (k3 : Nat) (s : Unit) => []) () H ⟨rfl, rfl, rfl, trivial⟩ trivial (fun _ _ => rfl) ?_ ?_
    · rintro ⟨⟩ H
      replace H : gateref2_HeadersFault_E1 = some r := H
      unfold gateref2_HeadersFault_E1 at H
      refine awp_seq ?_
      refine awp_plain hN rfl ?_
      refine seq_run0 (stp_lss rfl rfl) ?_
      refine awp_seq ?_
      refine awp_cond _ rfl (fun h => (lt_t h).elim) (fun h => ?_)
      refine awp_exit ?_
      refine awp_seq ?_
      refine awp_plain hN rfl ?_
      refine seq_run0 (stp_assign (.dat _) rfl) ?_
      refine awp_ret ?_
      cases H
      exact ⟨trivial, .inl rfl, trivial⟩
    · rintro k3 x6 ⟨⟩ q4 h7 h8 H hq4
      replace H : gateref2_HeadersFault_L1 k3 x6 = some q4 := H
      unfold gateref2_HeadersFault_L1 at H
      refine awp_seq ?_
      refine awp_plain hN rfl ?_
      refine seq_run0 (stp_lss rfl rfl) ?_
      refine awp_seq ?_
      refine awp_cond _ rfl (fun h => ?_) (fun h => (lt_f h7 h).elim)
      refine awp_skip ?_
      refine awp_seq ?_
      refine awp_block ?_
      refine awp_seq ?_
      refine awp_plain hN rfl ?_
      refine seq_run0 (t_idx tyE26 (fun _ => rfl) rfl rfl h8) ?_
      refine seq_run0 (stp_loadEA tyS49 rfl (map_at h8) rfl) ?_
      refine seq_run2 (stp_alloc 1 tyZ49 rfl) rfl ?_
      refine seq_run2 (stp_storeW tyS49 rfl rfl rfl rfl) rfl ?_
      refine awp_seq ?_
      refine awp_seq ?_
      refine awp_plain hN rfl ?_
      refine seq_run0 (stp_fldP tyF49_0 rfl) ?_
      refine seq_run1 (stp_load1 tyS9 rfl rfl) rfl ?_
      obtain ⟨r9, h10, H⟩ := bnd H
      refine seq_run0 (stp_call (k_gateref2_Token x6.Name r9 h10) ⟨.inl rfl, trivial⟩) ?_
      refine seq_run0 (stp_not rfl) ?_
      refine awp_cond _ rfl (fun h11 => ?_) (fun h11 => ?_)
      · replace H := ift h11 H
        refine awp_seq ?_
        refine awp_plain hN rfl ?_
        refine seq_run0 (stp_assign (.dat _) rfl) ?_
        refine awp_ret ?_
        replace H := retl H hq4
        cases H
        exact ⟨trivial, .inl rfl, trivial⟩
      · replace H := iff_ h11 H
        refine awp_skip ?_
        refine awp_seq ?_
        refine awp_plain hN rfl ?_
        refine seq_run0 (stp_fldP tyF49_1 rfl) ?_
        refine seq_run1 (stp_load1 tyS9 rfl rfl) rfl ?_
        obtain ⟨r12, h13, H⟩ := bnd H
        refine seq_run0 (stp_call (k_gateref2_Field x6.Value r12 h13) ⟨.inl rfl, trivial⟩) ?_
        refine seq_run0 (stp_not rfl) ?_
        refine awp_cond _ rfl (fun h14 => ?_) (fun h14 => ?_)
        · replace H := ift h14 H
          refine awp_seq ?_
          refine awp_plain hN rfl ?_
          refine seq_run0 (stp_assign (.dat _) rfl) ?_
          refine awp_ret ?_
          replace H := retl H hq4
          cases H
          exact ⟨trivial, .inl rfl, trivial⟩
        · replace H := iff_ h14 H
          refine awp_skip ?_
          refine awp_plain hN rfl ?_
          refine seq_run0 (stp_add rfl rfl (by omega)) ?_
          refine seq_run0 (stp_move (.dat _) rfl) ?_
          exact ⟨_, backl H, ⟨rfl, rfl, rfl, trivial⟩, trivial⟩
theorem k_gateref2_alike (a1 : Bs) (b2 : Bs) (r : (Bool)) (H : m_gateref2_alike a1 b2 = some r) : Fn Tryz.prog 76 [vstr a1, vstr b2] (resOf [vbool r]) := by
  refine ⟨by kernel_rfl, pure_of (us := [vbool r]) Tryz.func76 rfl rfl rfl rfl fun X hN => ?_⟩
  unfold m_gateref2_alike at H
  refine awp_seq ?_
  refine awp_plain hN rfl ?_
  refine seq_run0 (stp_assign (.dat _) rfl) ?_
  refine awp_seq ?_
  refine awp_plain hN rfl ?_
  refine seq_run0 (stp_move (.dat _) rfl) ?_
  obtain ⟨r3, h4, H⟩ := bnd H
  refine seq_run0 (stp_call (k_strings_ToLower a1 r3 h4) ⟨.inl rfl, trivial⟩) ?_
  refine seq_run0 (stp_move (.dat _) rfl) ?_
  obtain ⟨r5, h6, H⟩ := bnd H
  refine seq_run0 (stp_call (k_strings_ToLower b2 r5 h6) ⟨.inl rfl, trivial⟩) ?_
  refine seq_run0 (stp_seql rfl rfl) ?_
  refine seq_run0 (stp_assign (.dat _) rfl) ?_
  refine awp_ret ?_
  cases H
  exact ⟨trivial, .inl rfl, trivial⟩
end Go.Proofs.YthodoodnkohdaaaGreatDoor
