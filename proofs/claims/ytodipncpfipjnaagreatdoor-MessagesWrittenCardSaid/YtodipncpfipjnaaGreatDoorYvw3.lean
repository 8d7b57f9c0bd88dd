/- Walks along the models. Printed by a program. -/
import Derived.Test.YtodipncpfipjnaaGreatDoorYvw2
namespace Go.Proofs.YtodipncpfipjnaaGreatDoor
open Go.RowKit
set_option linter.unusedVariables false
set_option maxRecDepth 20000
theorem k_message_isHost (s1 : Bs) (r : (Bool)) (H : m_message_isHost s1 = some r) : Fn Tryz.prog 56 [vstr s1] (resOf [vbool r]) := by
  refine ⟨by kernel_rfl, pure_of (us := [vbool r]) Tryz.func56 rfl rfl rfl rfl fun X hN => ?_⟩
  unfold m_message_isHost at H
  refine awp_seq ?_
  refine awp_plain hN rfl ?_
  refine seq_run0 (stp_assign (.dat _) rfl) ?_
  refine awp_seq ?_
  refine awp_plain hN rfl ?_
  refine seq_run0 (stp_move (.dat _) rfl) ?_
  obtain ⟨r2, h3, H⟩ := bnd H
  refine seq_run0 (stp_call (k_strings_Cut s1 [58] r2 h3) ⟨.inl rfl, .inl rfl, trivial⟩) ?_
  refine seq_run0 (stp_move (.dat _) rfl) ?_
  refine seq_run0 (stp_ext rfl rfl) ?_
  refine seq_run0 (stp_ext rfl rfl) ?_
  refine seq_run0 (stp_ext rfl rfl) ?_
  refine seq_run0 (stp_assign (.dat _) rfl) ?_
  refine seq_run0 (stp_assign (.dat _) rfl) ?_
  refine seq_run0 (stp_assign (.dat _) rfl) ?_
  refine awp_seq ?_
  refine awp_seq ?_
  refine awp_plain hN rfl ?_
  refine seq_run0 (stp_move (.dat _) rfl) ?_
  obtain ⟨r4, h5, H⟩ := bnd H
  refine seq_run0 (stp_call (k_strings_Split r2.1 [46] r4 h5) ⟨.inl rfl, .inl rfl, trivial⟩) ?_
  refine seq_run0 (t_len tyU87 rfl) ?_
  refine seq_run0 (stp_move (.dat _) rfl) ?_
  refine awp_block ?_
  obtain ⟨h8, H⟩ := gif H
  refine awp_forL (fun (k6 : Nat) (s : Unit) => [(0, .dat (vstr s1)), (4, .dat (vstr r2.2.1)), (5, .dat (vbool r2.2.2)), (17, .dat (vlst (List.map C_string r4))), (18, .dat (vint (r4.length : Int))), (19, .dat (vint (k6 : Int)))]) (fun (k6 : Nat) (s : Unit) => []) () H ⟨rfl, rfl, rfl, rfl, rfl, rfl, trivial⟩ trivial (fun _ _ => rfl) ?_ ?_
  · rintro ⟨⟩ H
    replace H : message_isHost_E1 s1 r2 = some r := H
    unfold message_isHost_E1 at H
    refine awp_seq ?_
    refine awp_plain hN rfl ?_
    refine seq_run0 (stp_lss rfl rfl) ?_
    refine awp_seq ?_
    refine awp_cond _ rfl (fun h => (lt_t h).elim) (fun h => ?_)
    refine awp_exit ?_
    refine awp_seq ?_
    refine awp_plain hN rfl ?_
    refine seq_run0 (stp_move (.dat _) rfl) ?_
    obtain ⟨r10, h11, H⟩ := bnd H
    refine seq_run0 (stp_call (k_kit_Small r2.2.1 r10 h11) ⟨.inl rfl, trivial⟩) ?_
    refine seq_run0 (stp_move (.dat _) rfl) ?_
    refine seq_run0 (stp_ext rfl rfl) ?_
    refine seq_run0 (stp_ext rfl rfl) ?_
    refine seq_run0 (stp_assign (.dat _) rfl) ?_
    refine seq_run0 (stp_assign (.dat _) rfl) ?_
    refine awp_joinE (ι := Bool) (fun i => [(2, .dat (vbool i))]) (fun i => []) (fun i => message_isHost_J2 i = some r) (fun i => rfl) ?_ ?_
    · skip
      refine awp_plain hN rfl ?_
      refine seq_run0 (stp_move (.dat _) rfl) ?_
      refine seq_run0 (stp_len_str tyU9 rfl) ?_
      refine seq_run0 (stp_leq rfl rfl) ?_
      refine seq_run0 (stp_move (.dat _) rfl) ?_
      refine seq_split (j := 3) rfl rfl (fun h12 => ?_) (fun h12 => ?_) rfl
      · have h13 := un1 h12
        replace H := ift h13 H
        refine seq_g0 rfl rfl h12 (stp_move (.dat _) rfl) ?_
        refine seq_g0 rfl rfl h12 (stp_not rfl) ?_
        refine seq_g0 rfl rfl h12 (stp_move (.dat _) rfl) ?_
        refine seq_split (j := 6) rfl rfl (fun h14 => ?_) (fun h14 => ?_) rfl
        · have h15 := un3 h14
          replace H := iff_ h15 H
          refine seq_g0 rfl rfl h14 (stp_move (.dat _) rfl) ?_
          refine seq_g0 rfl rfl h14 (stp_move (.dat _) rfl) ?_
          refine seq_split (j := 8) rfl rfl (fun h16 => ?_) (fun h16 => ?_) rfl
          · have h17 := un1 h16
            replace H := ift h17 H
            refine seq_g0 rfl rfl h16 (stp_move (.dat _) rfl) ?_
            obtain ⟨r18, h19, H⟩ := bnd H
            refine seq_g0 rfl rfl h16 (stp_call (k_kit_Outside r10.1 1 65535 r18 h19) ⟨.inl rfl, .inl rfl, .inl rfl, trivial⟩) ?_
            refine seq_g0 rfl rfl h16 (stp_not rfl) ?_
            refine seq_g0 rfl rfl h14 (stp_pick_t rfl (bTT h17) rfl) ?_
            refine seq_g0 rfl rfl h12 (stp_pick_f rfl (bFF h15) rfl) ?_
            refine seq_run0 (stp_pick_t rfl (bTT h13) rfl) ?_
            refine seq_run0 (stp_assign (.dat _) rfl) ?_
            exact ⟨!r18, H, ⟨rfl, trivial⟩, trivial⟩
          · have h20 := un2 h16
            replace H := iff_ h20 H
            refine seq_skip rfl rfl h16 ?_
            refine seq_skip rfl rfl h16 ?_
            refine seq_skip rfl rfl h16 ?_
            refine seq_g0 rfl rfl h14 (stp_pick_f rfl (bFF h20) rfl) ?_
            refine seq_g0 rfl rfl h12 (stp_pick_f rfl (bFF h15) rfl) ?_
            refine seq_run0 (stp_pick_t rfl (bTT h13) rfl) ?_
            refine seq_run0 (stp_assign (.dat _) rfl) ?_
            exact ⟨false, H, ⟨rfl, trivial⟩, trivial⟩
        · have h21 := un4 h14
          replace H := ift h21 H
          refine seq_skip rfl rfl h14 ?_
          refine seq_skip rfl rfl h14 ?_
          refine seq_skipU rfl rfl ?_
          refine seq_skipU rfl rfl ?_
          refine seq_skipU rfl rfl ?_
          refine seq_skip rfl rfl h14 ?_
          refine seq_g0 rfl rfl h12 (stp_pick_t rfl (bTT h21) rfl) ?_
          refine seq_run0 (stp_pick_t rfl (bTT h13) rfl) ?_
          refine seq_run0 (stp_assign (.dat _) rfl) ?_
          exact ⟨true, H, ⟨rfl, trivial⟩, trivial⟩
      · have h22 := un2 h12
        replace H := iff_ h22 H
        refine seq_skip rfl rfl h12 ?_
        refine seq_skip rfl rfl h12 ?_
        refine seq_skip rfl rfl h12 ?_
        refine seq_skipU rfl rfl ?_
        refine seq_skipU rfl rfl ?_
        refine seq_skipU rfl rfl ?_
        refine seq_skipU rfl rfl ?_
        refine seq_skipU rfl rfl ?_
        refine seq_skipU rfl rfl ?_
        refine seq_skip rfl rfl h12 ?_
        refine seq_run0 (stp_pick_f rfl (bFF h22) rfl) ?_
        refine seq_run0 (stp_assign (.dat _) rfl) ?_
        exact ⟨false, H, ⟨rfl, trivial⟩, trivial⟩
    · rintro v23 H
      replace H : message_isHost_J2 v23 = some r := H
      unfold message_isHost_J2 at H
      refine awp_ret ?_
      cases H
      exact ⟨trivial, .inl rfl, trivial⟩
  · rintro k6 x9 ⟨⟩ q7 h24 h25 H hq7
    replace H : message_isHost_L1 k6 x9 = some q7 := H
    unfold message_isHost_L1 at H
    refine awp_seq ?_
    refine awp_plain hN rfl ?_
    refine seq_run0 (stp_lss rfl rfl) ?_
    refine awp_seq ?_
    refine awp_cond _ rfl (fun h => ?_) (fun h => (lt_f h24 h).elim)
    refine awp_skip ?_
    refine awp_seq ?_
    refine awp_block ?_
    refine awp_seq ?_
    refine awp_plain hN rfl ?_
    refine seq_run0 (t_idx tyE87 (fun _ => rfl) rfl rfl h25) ?_
    refine seq_run0 (stp_loadE1 tyS9 rfl (map_at h25) rfl) ?_
    refine seq_run0 (stp_assign (.dat _) rfl) ?_
    refine awp_seq ?_
    refine awp_plain hN rfl ?_
    refine seq_run0 (stp_move (.dat _) rfl) ?_
    obtain ⟨r26, h27, H⟩ := bnd H
    refine seq_run0 (stp_call (k_message_isLabel x9 r26 h27) ⟨.inl rfl, trivial⟩) ?_
    refine seq_run0 (stp_not rfl) ?_
    refine awp_cond _ rfl (fun h28 => ?_) (fun h28 => ?_)
    · replace H := ift h28 H
      refine awp_seq ?_
      refine awp_plain hN rfl ?_
      refine seq_run0 (stp_assign (.dat _) rfl) ?_
      refine awp_ret ?_
      replace H := retl H hq7
      cases H
      exact ⟨trivial, .inl rfl, trivial⟩
    · replace H := iff_ h28 H
      refine awp_skip ?_
      refine awp_plain hN rfl ?_
      refine seq_run0 (stp_add rfl rfl (by omega)) ?_
      refine seq_run0 (stp_move (.dat _) rfl) ?_
      exact ⟨_, backl H, ⟨rfl, rfl, rfl, rfl, rfl, rfl, trivial⟩, trivial⟩
theorem k_strings_HasPrefix (s p : Bs) (r : Bool) (H : m_strings_HasPrefix s p = some r) : Fn Tryz.prog 51 [vstr s, vstr p] (resOf [vbool r]) := by
  cases H
  refine fn_of_calls (by kernel_rfl) fun M w vs h => ?_
  have h1 := Ts_vals (us := [.string ⟨s.toArray⟩, .string ⟨p.toArray⟩]) h
  subst h1
  refine (Tryz.strings_HasPrefix ⟨s.toArray⟩ ⟨p.toArray⟩ w).mono ?_
  rintro e w' ⟨rfl, rfl⟩
  exact ⟨_, rfl, rfl, Kp.refl _ _⟩
theorem k_message_isRange (s1 : Bs) (low2 : Int) (high3 : Int) (r : (Bool)) (H : m_message_isRange s1 low2 high3 = some r) : Fn Tryz.prog 88 [vstr s1, vval (.int .u8 low2), vval (.int .u8 high3)] (resOf [vbool r]) := by
  refine ⟨by kernel_rfl, pure_of (us := [vbool r]) Tryz.func88 rfl rfl rfl rfl fun X hN => ?_⟩
  unfold m_message_isRange at H
  refine awp_seq ?_
  refine awp_plain hN rfl ?_
  refine seq_run0 (stp_assign (.dat _) rfl) ?_
  refine awp_seq ?_
  refine awp_seq ?_
  refine awp_plain hN rfl ?_
  refine seq_run0 (stp_move (.dat _) rfl) ?_
  refine seq_run0 (stp_len_str tyU9 rfl) ?_
  refine seq_run0 (stp_move (.dat _) rfl) ?_
  refine awp_block ?_
  obtain ⟨h6, H⟩ := gif H
  refine awp_forL (fun (k4 : Nat) (s : Unit) => [(0, .dat (vstr s1)), (1, .dat (vval (.int .u8 low2))), (2, .dat (vval (.int .u8 high3))), (9, .dat (vint (s1.length : Int))), (10, .dat (vint (k4 : Int)))]) (fun (k4 : Nat) (s : Unit) => []) () H ⟨rfl, rfl, rfl, rfl, rfl, trivial⟩ trivial (fun _ _ => rfl) ?_ ?_
  · rintro ⟨⟩ H
    replace H : message_isRange_E1 = some r := H
    unfold message_isRange_E1 at H
    refine awp_seq ?_
    refine awp_plain hN rfl ?_
    refine seq_run0 (stp_lss rfl rfl) ?_
    refine awp_seq ?_
    refine awp_cond _ rfl (fun h => (lt_t h).elim) (fun h => ?_)
    refine awp_exit ?_
    refine awp_seq ?_
    refine awp_plain hN rfl ?_
    refine seq_run0 (stp_assign (.dat _) rfl) ?_
    refine awp_ret ?_
    cases H
    exact ⟨trivial, .inl rfl, trivial⟩
  · rintro k4 x7 ⟨⟩ q5 h8 h9 H hq5
    replace H : message_isRange_L1 low2 high3 k4 x7 = some q5 := H
    unfold message_isRange_L1 at H
    refine awp_seq ?_
    refine awp_plain hN rfl ?_
    refine seq_run0 (stp_lss rfl rfl) ?_
    refine awp_seq ?_
    refine awp_cond _ rfl (fun h => ?_) (fun h => (lt_f h8 h).elim)
    refine awp_skip ?_
    refine awp_seq ?_
    refine awp_block ?_
    refine awp_seq ?_
    refine awp_plain hN rfl ?_
    refine seq_run0 (stp_move (.dat _) rfl) ?_
    refine seq_run0 (stp_assign (.dat _) rfl) ?_
    refine awp_joinE (ι := Bool) (fun i => [(0, .dat (vstr s1)), (1, .dat (vval (.int .u8 low2))), (2, .dat (vval (.int .u8 high3))), (9, .dat (vint (s1.length : Int))), (10, .dat (vint (k4 : Int))), (24, .dat (vbool i))]) (fun i => []) (fun i => message_isRange_J2 i = some q5) (fun i => rfl) ?_ ?_
    · skip
      refine awp_plain hN rfl ?_
      refine seq_run0 (stp_move (.dat _) rfl) ?_
      refine seq_run0 (stp_move (.dat _) rfl) ?_
      refine seq_run0 (t_byte tyU9 rfl rfl h9) ?_
      refine seq_run0 (stp_move (.dat _) rfl) ?_
      refine seq_run0 (stp_lss rfl rfl) ?_
      refine seq_run0 (stp_move (.dat _) rfl) ?_
      refine seq_split (j := 5) rfl rfl (fun h10 => ?_) (fun h10 => ?_) rfl
      · have h11 := un3 h10
        replace H := iff_ h11 H
        refine seq_g0 rfl rfl h10 (stp_move (.dat _) rfl) ?_
        refine seq_g0 rfl rfl h10 (stp_move (.dat _) rfl) ?_
        refine seq_g0 rfl rfl h10 (t_byte tyU9 rfl rfl h9) ?_
        refine seq_g0 rfl rfl h10 (stp_move (.dat _) rfl) ?_
        refine seq_g0 rfl rfl h10 (stp_gtr rfl rfl) ?_
        refine seq_run0 (stp_pick_f rfl (bFF h11) rfl) ?_
        exact ⟨decide (high3 < (x7.toNat : Int)), H, ⟨rfl, rfl, rfl, rfl, rfl, rfl, trivial⟩, trivial⟩
      · have h12 := un4 h10
        replace H := ift h12 H
        refine seq_skip rfl rfl h10 ?_
        refine seq_skip rfl rfl h10 ?_
        refine seq_skip rfl rfl h10 ?_
        refine seq_skip rfl rfl h10 ?_
        refine seq_skip rfl rfl h10 ?_
        refine seq_run0 (stp_pick_t rfl (bTT h12) rfl) ?_
        exact ⟨true, H, ⟨rfl, rfl, rfl, rfl, rfl, rfl, trivial⟩, trivial⟩
    · rintro v13 H
      replace H : message_isRange_J2 v13 = some q5 := H
      unfold message_isRange_J2 at H
      refine awp_cond _ rfl (fun h14 => ?_) (fun h14 => ?_)
      · replace H := ift h14 H
        refine awp_seq ?_
        refine awp_plain hN rfl ?_
        refine seq_run0 (stp_assign (.dat _) rfl) ?_
        refine awp_ret ?_
        replace H := retl H hq5
        cases H
        exact ⟨trivial, .inl rfl, trivial⟩
      · replace H := iff_ h14 H
        refine awp_skip ?_
        refine awp_plain hN rfl ?_
        refine seq_run0 (stp_add rfl rfl (by omega)) ?_
        refine seq_run0 (stp_move (.dat _) rfl) ?_
        exact ⟨_, backl H, ⟨rfl, rfl, rfl, rfl, rfl, trivial⟩, trivial⟩
theorem k_strings_ContainsAny (s p : Bs) (r : Bool) (H : m_strings_ContainsAny s p = some r) : Fn Tryz.prog 76 [vstr s, vstr p] (resOf [vbool r]) := by
  unfold m_strings_ContainsAny at H
  obtain ⟨⟨⟨h1, h2⟩, h3, h4⟩, h5⟩ := gif H
  cases h5
  refine fn_of_callsG (by kernel_rfl) fun M w vs hM h => ?_
  have hv := Ts_vals (us := [.string ⟨s.toArray⟩, .string ⟨p.toArray⟩]) h
  subst hv
  refine (Tryz.strings_ContainsAny_laid ⟨s.toArray⟩ ⟨p.toArray⟩ w (by simp [ByteArray.size]; omega) (by simp [ByteArray.size]; omega) (fun j b hb => ascB_at h3 j b (by simpa using hb)) (fun j b hb => ascB_at h4 j b (by simpa using hb))).mono ?_
  rintro e w' ⟨rfl, hb⟩
  exact ⟨_, rfl, rfl, Kp.of_below hb⟩

theorem k_message_PathFault (s1 : Bs) (r : (Int)) (H : m_message_PathFault s1 = some r) : Fn Tryz.prog 57 [vstr s1] (resOf [vint r]) := by
  refine ⟨by kernel_rfl, pure_of (us := [vint r]) Tryz.func57 rfl rfl rfl rfl fun X hN => ?_⟩
  unfold m_message_PathFault at H
  refine awp_seq ?_
  refine awp_plain hN rfl ?_
  refine seq_run0 (stp_assign (.dat _) rfl) ?_
  refine awp_seq ?_
  refine awp_joinE (ι := Bool) (fun i => [(19, .dat (vbool i))]) (fun i => []) (fun i => message_PathFault_J1 i = some r) (fun i => rfl) ?_ ?_
  · skip
    refine awp_plain hN rfl ?_
    refine seq_run0 (stp_move (.dat _) rfl) ?_
    refine seq_run0 (stp_len_str tyU9 rfl) ?_
    refine seq_run0 (stp_gtr rfl rfl) ?_
    refine seq_run0 (stp_move (.dat _) rfl) ?_
    refine seq_split (j := 3) rfl rfl (fun h2 => ?_) (fun h2 => ?_) rfl
    · have h3 := un3 h2
      replace H := iff_ h3 H
      refine seq_g0 rfl rfl h2 (stp_move (.dat _) rfl) ?_
      obtain ⟨r4, h5, H⟩ := bnd H
      refine seq_g0 rfl rfl h2 (stp_call (k_strings_HasPrefix s1 [47] r4 h5) ⟨.inl rfl, .inl rfl, trivial⟩) ?_
      refine seq_g0 rfl rfl h2 (stp_not rfl) ?_
      refine seq_run0 (stp_pick_f rfl (bFF h3) rfl) ?_
      refine seq_run0 (stp_move (.dat _) rfl) ?_
      refine seq_split (j := 8) rfl rfl (fun h6 => ?_) (fun h6 => ?_) rfl
      · have h7 := un3 h6
        replace H := iff_ h7 H
        refine seq_g0 rfl rfl h6 (stp_move (.dat _) rfl) ?_
        obtain ⟨r8, h9, H⟩ := bnd H
        refine seq_g0 rfl rfl h6 (stp_call (k_message_isRange s1 33 126 r8 h9) ⟨.inl rfl, .inl rfl, .inl rfl, trivial⟩) ?_
        refine seq_g0 rfl rfl h6 (stp_not rfl) ?_
        refine seq_run0 (stp_pick_f rfl (bFF h7) rfl) ?_
        refine seq_run0 (stp_move (.dat _) rfl) ?_
        refine seq_split (j := 13) rfl rfl (fun h10 => ?_) (fun h10 => ?_) rfl
        · have h11 := un3 h10
          replace H := iff_ h11 H
          refine seq_g0 rfl rfl h10 (stp_move (.dat _) rfl) ?_
          obtain ⟨r12, h13, H⟩ := bnd H
          refine seq_g0 rfl rfl h10 (stp_call (k_strings_ContainsAny s1 [63, 35] r12 h13) ⟨.inl rfl, .inl rfl, trivial⟩) ?_
          refine seq_run0 (stp_pick_f rfl (bFF h11) rfl) ?_
          exact ⟨r12, H, ⟨rfl, trivial⟩, trivial⟩
        · have h14 := un4 h10
          replace H := ift h14 H
          refine seq_skip rfl rfl h10 ?_
          refine seq_skip rfl rfl h10 ?_
          refine seq_run0 (stp_pick_t rfl (bTT h14) rfl) ?_
          exact ⟨true, H, ⟨rfl, trivial⟩, trivial⟩
      · have h15 := un4 h6
        replace H := ift h15 H
        refine seq_skip rfl rfl h6 ?_
        refine seq_skip rfl rfl h6 ?_
        refine seq_skip rfl rfl h6 ?_
        refine seq_run0 (stp_pick_t rfl (bTT h15) rfl) ?_
        refine seq_run0 (stp_move (.dat _) rfl) ?_
        refine seq_skip rfl rfl rfl ?_
        refine seq_skip rfl rfl rfl ?_
        refine seq_run0 (stp_pick_t rfl rfl rfl) ?_
        exact ⟨true, H, ⟨rfl, trivial⟩, trivial⟩
    · have h16 := un4 h2
      replace H := ift h16 H
      refine seq_skip rfl rfl h2 ?_
      refine seq_skip rfl rfl h2 ?_
      refine seq_skip rfl rfl h2 ?_
      refine seq_run0 (stp_pick_t rfl (bTT h16) rfl) ?_
      refine seq_run0 (stp_move (.dat _) rfl) ?_
      refine seq_skip rfl rfl rfl ?_
      refine seq_skip rfl rfl rfl ?_
      refine seq_skip rfl rfl rfl ?_
      refine seq_run0 (stp_pick_t rfl rfl rfl) ?_
      refine seq_run0 (stp_move (.dat _) rfl) ?_
      refine seq_skip rfl rfl rfl ?_
      refine seq_skip rfl rfl rfl ?_
      refine seq_run0 (stp_pick_t rfl rfl rfl) ?_
      exact ⟨true, H, ⟨rfl, trivial⟩, trivial⟩
  · rintro v17 H
    replace H : message_PathFault_J1 v17 = some r := H
    unfold message_PathFault_J1 at H
    refine awp_cond _ rfl (fun h18 => ?_) (fun h18 => ?_)
    · replace H := ift h18 H
      refine awp_seq ?_
      refine awp_plain hN rfl ?_
      refine seq_run0 (stp_assign (.dat _) rfl) ?_
      refine awp_ret ?_
      cases H
      exact ⟨trivial, .inl rfl, trivial⟩
    · replace H := iff_ h18 H
      refine awp_skip ?_
      refine awp_seq ?_
      refine awp_plain hN rfl ?_
      refine seq_run0 (stp_assign (.dat _) rfl) ?_
      refine awp_ret ?_
      cases H
      exact ⟨trivial, .inl rfl, trivial⟩
theorem k_strings_Contains (s p : Bs) (r : Bool) (H : m_strings_Contains s p = some r) : Fn Tryz.prog 77 [vstr s, vstr p] (resOf [vbool r]) := by
  unfold m_strings_Contains at H
  obtain ⟨h1, h2⟩ := gif H
  cases h2
  refine fn_of_callsG (by kernel_rfl) fun M w vs hM h => ?_
  have hv := Ts_vals (us := [.string ⟨s.toArray⟩, .string ⟨p.toArray⟩]) h
  subst hv
  obtain ⟨m, hm⟩ := maxLen_cell hM
  refine (Tryz.strings_Contains ⟨s.toArray⟩ ⟨p.toArray⟩ m w (by simp [ByteArray.size]; omega) hm).mono ?_
  rintro e w' ⟨rfl, rfl⟩
  exact ⟨_, rfl, rfl, Kp.refl _ _⟩

theorem k_message_queryFault (s1 : Bs) (r : (Int)) (H : m_message_queryFault s1 = some r) : Fn Tryz.prog 58 [vstr s1] (resOf [vint r]) := by
  refine ⟨by kernel_rfl, pure_of (us := [vint r]) Tryz.func58 rfl rfl rfl rfl fun X hN => ?_⟩
  unfold m_message_queryFault at H
  refine awp_seq ?_
  refine awp_plain hN rfl ?_
  refine seq_run0 (stp_assign (.dat _) rfl) ?_
  refine awp_seq ?_
  refine awp_joinE (ι := Bool) (fun i => [(14, .dat (vbool i))]) (fun i => []) (fun i => message_queryFault_J1 i = some r) (fun i => rfl) ?_ ?_
  · skip
    refine awp_plain hN rfl ?_
    refine seq_run0 (stp_move (.dat _) rfl) ?_
    refine seq_run0 (stp_len_str tyU9 rfl) ?_
    refine seq_run0 (stp_gtr rfl rfl) ?_
    refine seq_run0 (stp_move (.dat _) rfl) ?_
    refine seq_split (j := 3) rfl rfl (fun h2 => ?_) (fun h2 => ?_) rfl
    · have h3 := un3 h2
      replace H := iff_ h3 H
      refine seq_g0 rfl rfl h2 (stp_move (.dat _) rfl) ?_
      obtain ⟨r4, h5, H⟩ := bnd H
      refine seq_g0 rfl rfl h2 (stp_call (k_message_isRange s1 33 126 r4 h5) ⟨.inl rfl, .inl rfl, .inl rfl, trivial⟩) ?_
      refine seq_g0 rfl rfl h2 (stp_not rfl) ?_
      refine seq_run0 (stp_pick_f rfl (bFF h3) rfl) ?_
      refine seq_run0 (stp_move (.dat _) rfl) ?_
      refine seq_split (j := 8) rfl rfl (fun h6 => ?_) (fun h6 => ?_) rfl
      · have h7 := un3 h6
        replace H := iff_ h7 H
        refine seq_g0 rfl rfl h6 (stp_move (.dat _) rfl) ?_
        obtain ⟨r8, h9, H⟩ := bnd H
        refine seq_g0 rfl rfl h6 (stp_call (k_strings_Contains s1 [35] r8 h9) ⟨.inl rfl, .inl rfl, trivial⟩) ?_
        refine seq_run0 (stp_pick_f rfl (bFF h7) rfl) ?_
        exact ⟨r8, H, ⟨rfl, trivial⟩, trivial⟩
      · have h10 := un4 h6
        replace H := ift h10 H
        refine seq_skip rfl rfl h6 ?_
        refine seq_skip rfl rfl h6 ?_
        refine seq_run0 (stp_pick_t rfl (bTT h10) rfl) ?_
        exact ⟨true, H, ⟨rfl, trivial⟩, trivial⟩
    · have h11 := un4 h2
      replace H := ift h11 H
      refine seq_skip rfl rfl h2 ?_
      refine seq_skip rfl rfl h2 ?_
      refine seq_skip rfl rfl h2 ?_
      refine seq_run0 (stp_pick_t rfl (bTT h11) rfl) ?_
      refine seq_run0 (stp_move (.dat _) rfl) ?_
      refine seq_skip rfl rfl rfl ?_
      refine seq_skip rfl rfl rfl ?_
      refine seq_run0 (stp_pick_t rfl rfl rfl) ?_
      exact ⟨true, H, ⟨rfl, trivial⟩, trivial⟩
  · rintro v12 H
    replace H : message_queryFault_J1 v12 = some r := H
    unfold message_queryFault_J1 at H
    refine awp_cond _ rfl (fun h13 => ?_) (fun h13 => ?_)
    · replace H := ift h13 H
      refine awp_seq ?_
      refine awp_plain hN rfl ?_
      refine seq_run0 (stp_assign (.dat _) rfl) ?_
      refine awp_ret ?_
      cases H
      exact ⟨trivial, .inl rfl, trivial⟩
    · replace H := iff_ h13 H
      refine awp_skip ?_
      refine awp_seq ?_
      refine awp_plain hN rfl ?_
      refine seq_run0 (stp_assign (.dat _) rfl) ?_
      refine awp_ret ?_
      cases H
      exact ⟨trivial, .inl rfl, trivial⟩
theorem k_strings_trimRightByte (s1 : Bs) (c2 : Int) (r : (Bs)) (H : m_strings_trimRightByte s1 c2 = some r) : Fn Tryz.prog 99 [vstr s1, vval (.int .u8 c2)] (resOf [vstr r]) := by
  refine ⟨by kernel_rfl, pure_of (us := [vstr r]) Tryz.func99 rfl rfl rfl rfl fun X hN => ?_⟩
  unfold m_strings_trimRightByte at H
  refine awp_seq ?_
  refine awp_plain hN rfl ?_
  refine seq_run0 (stp_assign (.dat _) rfl) ?_
  refine awp_joinE (ι := Bs) (fun i => [(0, .dat (vstr i))]) (fun i => []) (fun i => strings_trimRightByte_J1 i = some r) (fun i => rfl) ?_ ?_
  · skip
    refine awp_block ?_
    refine awp_iter (fun (s : Bs) => [(0, .dat (vstr s)), (1, .dat (vval (.int .u8 c2)))]) (fun (s : Bs) => []) s1 H ⟨rfl, rfl, trivial⟩ trivial (fun _ => rfl) ?_
    rintro s3 q4 H hq4
    replace H : strings_trimRightByte_L2 c2 s3 = some q4 := H
    unfold strings_trimRightByte_L2 at H
    refine awp_seq ?_
    refine awp_joinE (ι := Bool) (fun i => [(0, .dat (vstr s3)), (1, .dat (vval (.int .u8 c2))), (16, .dat (vbool i))]) (fun i => []) (fun i => strings_trimRightByte_J3 s3 i = some q4) (fun i => rfl) ?_ ?_
    · skip
      refine awp_plain hN rfl ?_
      refine seq_run0 (stp_move (.dat _) rfl) ?_
      refine seq_run0 (stp_len_str tyU9 rfl) ?_
      refine seq_run0 (stp_gtr rfl rfl) ?_
      refine seq_run0 (stp_move (.dat _) rfl) ?_
      refine seq_split (j := 3) rfl rfl (fun h5 => ?_) (fun h5 => ?_) rfl
      · have h6 := un1 h5
        replace H := ift h6 H
        refine seq_g0 rfl rfl h5 (stp_move (.dat _) rfl) ?_
        refine seq_g0 rfl rfl h5 (stp_move (.dat _) rfl) ?_
        refine seq_g0 rfl rfl h5 (stp_len_str tyU9 rfl) ?_
        refine seq_g0 rfl rfl h5 (stp_wrap _ rfl rfl (.inr (.inl ⟨rfl, rfl⟩))) ?_
        obtain ⟨x7, h8, H⟩ := bnd H
        refine seq_g0 rfl rfl h5 (t_byteI tyU9 rfl rfl h8) ?_
        refine seq_g0 rfl rfl h5 (stp_move (.dat _) rfl) ?_
        refine seq_g0 rfl rfl h5 (stp_eql rfl rfl) ?_
        refine seq_run0 (stp_pick_t rfl (bTT h6) rfl) ?_
        exact ⟨decide ((x7.toNat : Int) = c2), H, ⟨rfl, rfl, rfl, trivial⟩, trivial⟩
      · have h9 := un2 h5
        replace H := iff_ h9 H
        refine seq_skip rfl rfl h5 ?_
        refine seq_skip rfl rfl h5 ?_
        refine seq_skip rfl rfl h5 ?_
        refine seq_skip rfl rfl h5 ?_
        refine seq_skip rfl rfl h5 ?_
        refine seq_skip rfl rfl h5 ?_
        refine seq_skip rfl rfl h5 ?_
        refine seq_run0 (stp_pick_f rfl (bFF h9) rfl) ?_
        exact ⟨false, H, ⟨rfl, rfl, rfl, trivial⟩, trivial⟩
    · rintro v10 H
      replace H : strings_trimRightByte_J3 s3 v10 = some q4 := H
      unfold strings_trimRightByte_J3 at H
      refine awp_cond _ rfl (fun h11 => ?_) (fun h11 => ?_)
      · replace H := ift h11 H
        refine awp_skip ?_
        refine awp_block ?_
        refine awp_plain hN rfl ?_
        refine seq_run0 (stp_move (.dat _) rfl) ?_
        refine seq_run0 (stp_move (.dat _) rfl) ?_
        refine seq_run0 (stp_len_str tyU9 rfl) ?_
        refine seq_run0 (stp_wrap _ rfl rfl (.inr (.inl ⟨rfl, rfl⟩))) ?_
        obtain ⟨l12, h13, H⟩ := bnd H
        refine seq_run0 (t_subS tyU9 rfl rfl rfl h13) ?_
        refine seq_run0 (stp_assign (.dat _) rfl) ?_
        exact ⟨_, backl H, ⟨rfl, rfl, trivial⟩, trivial⟩
      · replace H := iff_ h11 H
        refine awp_exit ?_
        replace H := outl H hq4
        exact ⟨s3, H, ⟨rfl, trivial⟩, trivial⟩
  · rintro s14 H
    replace H : strings_trimRightByte_J1 s14 = some r := H
    unfold strings_trimRightByte_J1 at H
    refine awp_seq ?_
    refine awp_plain hN rfl ?_
    refine seq_run0 (stp_move (.dat _) rfl) ?_
    refine seq_run0 (stp_assign (.dat _) rfl) ?_
    refine awp_ret ?_
    cases H
    exact ⟨trivial, .inl rfl, trivial⟩
theorem k_strings_trimLeftByte (s1 : Bs) (c2 : Int) (r : (Bs)) (H : m_strings_trimLeftByte s1 c2 = some r) : Fn Tryz.prog 98 [vstr s1, vval (.int .u8 c2)] (resOf [vstr r]) := by
  refine ⟨by kernel_rfl, pure_of (us := [vstr r]) Tryz.func98 rfl rfl rfl rfl fun X hN => ?_⟩
  unfold m_strings_trimLeftByte at H
  refine awp_seq ?_
  refine awp_plain hN rfl ?_
  refine seq_run0 (stp_assign (.dat _) rfl) ?_
  refine awp_joinE (ι := Bs) (fun i => [(0, .dat (vstr i))]) (fun i => []) (fun i => strings_trimLeftByte_J1 i = some r) (fun i => rfl) ?_ ?_
  · skip
    refine awp_block ?_
    refine awp_iter (fun (s : Bs) => [(0, .dat (vstr s)), (1, .dat (vval (.int .u8 c2)))]) (fun (s : Bs) => []) s1 H ⟨rfl, rfl, trivial⟩ trivial (fun _ => rfl) ?_
    rintro s3 q4 H hq4
    replace H : strings_trimLeftByte_L2 c2 s3 = some q4 := H
    unfold strings_trimLeftByte_L2 at H
    refine awp_seq ?_
    refine awp_joinE (ι := Bool) (fun i => [(0, .dat (vstr s3)), (1, .dat (vval (.int .u8 c2))), (13, .dat (vbool i))]) (fun i => []) (fun i => strings_trimLeftByte_J3 s3 i = some q4) (fun i => rfl) ?_ ?_
    · skip
      refine awp_plain hN rfl ?_
      refine seq_run0 (stp_move (.dat _) rfl) ?_
      refine seq_run0 (stp_len_str tyU9 rfl) ?_
      refine seq_run0 (stp_gtr rfl rfl) ?_
      refine seq_run0 (stp_move (.dat _) rfl) ?_
      refine seq_split (j := 3) rfl rfl (fun h5 => ?_) (fun h5 => ?_) rfl
      · have h6 := un1 h5
        replace H := ift h6 H
        refine seq_g0 rfl rfl h5 (stp_move (.dat _) rfl) ?_
        obtain ⟨x7, h8, H⟩ := bnd H
        refine seq_g0 rfl rfl h5 (t_byte tyU9 rfl rfl h8) ?_
        refine seq_g0 rfl rfl h5 (stp_move (.dat _) rfl) ?_
        refine seq_g0 rfl rfl h5 (stp_eql rfl rfl) ?_
        refine seq_run0 (stp_pick_t rfl (bTT h6) rfl) ?_
        exact ⟨decide ((x7.toNat : Int) = c2), H, ⟨rfl, rfl, rfl, trivial⟩, trivial⟩
      · have h9 := un2 h5
        replace H := iff_ h9 H
        refine seq_skip rfl rfl h5 ?_
        refine seq_skip rfl rfl h5 ?_
        refine seq_skip rfl rfl h5 ?_
        refine seq_skip rfl rfl h5 ?_
        refine seq_run0 (stp_pick_f rfl (bFF h9) rfl) ?_
        exact ⟨false, H, ⟨rfl, rfl, rfl, trivial⟩, trivial⟩
    · rintro v10 H
      replace H : strings_trimLeftByte_J3 s3 v10 = some q4 := H
      unfold strings_trimLeftByte_J3 at H
      refine awp_cond _ rfl (fun h11 => ?_) (fun h11 => ?_)
      · replace H := ift h11 H
        refine awp_skip ?_
        refine awp_block ?_
        refine awp_plain hN rfl ?_
        refine seq_run0 (stp_move (.dat _) rfl) ?_
        obtain ⟨l12, h13, H⟩ := bnd H
        refine seq_run0 (t_subS tyU9 rfl rfl rfl h13) ?_
        refine seq_run0 (stp_assign (.dat _) rfl) ?_
        exact ⟨_, backl H, ⟨rfl, rfl, trivial⟩, trivial⟩
      · replace H := iff_ h11 H
        refine awp_exit ?_
        replace H := outl H hq4
        exact ⟨s3, H, ⟨rfl, trivial⟩, trivial⟩
  · rintro s14 H
    replace H : strings_trimLeftByte_J1 s14 = some r := H
    unfold strings_trimLeftByte_J1 at H
    refine awp_seq ?_
    refine awp_plain hN rfl ?_
    refine seq_run0 (stp_move (.dat _) rfl) ?_
    refine seq_run0 (stp_assign (.dat _) rfl) ?_
    refine awp_ret ?_
    cases H
    exact ⟨trivial, .inl rfl, trivial⟩
theorem k_strings_Trim (s1 : Bs) (cutset2 : Bs) (r : (Bs)) (H : m_strings_Trim s1 cutset2 = some r) : Fn Tryz.prog 73 [vstr s1, vstr cutset2] (resOf [vstr r]) := by
  refine ⟨by kernel_rfl, pure_of (us := [vstr r]) Tryz.func73 rfl rfl rfl rfl fun X hN => ?_⟩
  unfold m_strings_Trim at H
  refine awp_seq ?_
  refine awp_plain hN rfl ?_
  refine seq_run0 (stp_assign (.dat _) rfl) ?_
  refine awp_seq ?_
  refine awp_seq ?_
  refine awp_plain hN rfl ?_
  refine seq_run0 (stp_move (.dat _) rfl) ?_
  refine seq_run0 (stp_seql rfl rfl) ?_
  refine seq_run0 (stp_move (.dat _) rfl) ?_
  refine seq_aF rfl rfl (fun hc => stp_move (.dat _) rfl) ?_
  refine seq_aF rfl rfl (fun hc => stp_seql (cnd (c := (!(decide (s1 = [])))) hc) rfl) ?_
  refine seq_run0 (stp_pick_or rfl rfl (fun hb => (cnd (c := (!(decide (s1 = [])))) (notI hb)))) ?_
  refine awp_cond _ rfl (fun h3 => ?_) (fun h3 => ?_)
  · replace H := ift h3 H
    refine awp_seq ?_
    refine awp_plain hN rfl ?_
    refine seq_run0 (stp_move (.dat _) rfl) ?_
    refine seq_run0 (stp_assign (.dat _) rfl) ?_
    refine awp_ret ?_
    cases H
    exact ⟨trivial, .inl rfl, trivial⟩
  · replace H := iff_ h3 H
    refine awp_skip ?_
    refine awp_seq ?_
    refine awp_joinE (ι := Bool) (fun i => [(0, .dat (vstr s1)), (1, .dat (vstr cutset2)), (21, .dat (vbool i))]) (fun i => []) (fun i => strings_Trim_J1 s1 cutset2 i = some r) (fun i => rfl) ?_ ?_
    · skip
      refine awp_plain hN rfl ?_
      refine seq_run0 (stp_move (.dat _) rfl) ?_
      refine seq_run0 (stp_len_str tyU9 rfl) ?_
      refine seq_run0 (stp_eql rfl rfl) ?_
      refine seq_run0 (stp_move (.dat _) rfl) ?_
      refine seq_split (j := 3) rfl rfl (fun h4 => ?_) (fun h4 => ?_) rfl
      · have h5 := un1 h4
        replace H := ift h5 H
        refine seq_g0 rfl rfl h4 (stp_move (.dat _) rfl) ?_
        obtain ⟨x6, h7, H⟩ := bnd H
        refine seq_g0 rfl rfl h4 (t_byte tyU9 rfl rfl h7) ?_
        refine seq_g0 rfl rfl h4 (stp_lss rfl rfl) ?_
        refine seq_run0 (stp_pick_t rfl (bTT h5) rfl) ?_
        exact ⟨decide ((x6.toNat : Int) < 128), H, ⟨rfl, rfl, rfl, trivial⟩, trivial⟩
      · have h8 := un2 h4
        replace H := iff_ h8 H
        refine seq_skip rfl rfl h4 ?_
        refine seq_skip rfl rfl h4 ?_
        refine seq_skip rfl rfl h4 ?_
        refine seq_run0 (stp_pick_f rfl (bFF h8) rfl) ?_
        exact ⟨false, H, ⟨rfl, rfl, rfl, trivial⟩, trivial⟩
    · rintro v9 H
      replace H : strings_Trim_J1 s1 cutset2 v9 = some r := H
      unfold strings_Trim_J1 at H
      refine awp_cond _ rfl (fun h10 => ?_) (fun h10 => ?_)
      · replace H := ift h10 H
        refine awp_seq ?_
        refine awp_draw mixed hN rfl rfl ?_
        refine seq_run0 (stp_move (.dat _) rfl) ?_
        refine seq_run0 (stp_move (.dat _) rfl) ?_
        obtain ⟨x11, h12, H⟩ := bnd H
        refine seq_run0 (t_byte tyU9 rfl rfl h12) ?_
        obtain ⟨r13, h14, H⟩ := bnd H
        refine seq_run0 (stp_call (k_strings_trimRightByte s1 (x11.toNat : Int) r13 h14) ⟨.inl rfl, .inl rfl, trivial⟩) ?_
        refine seq_run0 (stp_move (.dat _) rfl) ?_
        refine seq_run0 (t_byte tyU9 rfl rfl h12) ?_
        obtain ⟨r15, h16, H⟩ := bnd H
        refine seq_run0 (stp_call (k_strings_trimLeftByte r13 (x11.toNat : Int) r15 h16) ⟨.inl rfl, .inl rfl, trivial⟩) ?_
        refine seq_run0 (stp_assign (.dat _) rfl) ?_
        refine ⟨rfl, ?_⟩
        refine awp_ret ?_
        cases H
        exact ⟨trivial, .inl rfl, trivial⟩
      · replace H := iff_ h10 H
        cases H
theorem k_message_IsField (s1 : Bs) (r : (Bool)) (H : m_message_IsField s1 = some r) : Fn Tryz.prog 59 [vstr s1] (resOf [vbool r]) := by
  refine ⟨by kernel_rfl, pure_of (us := [vbool r]) Tryz.func59 rfl rfl rfl rfl fun X hN => ?_⟩
  unfold m_message_IsField at H
  refine awp_seq ?_
  refine awp_plain hN rfl ?_
  refine seq_run0 (stp_assign (.dat _) rfl) ?_
  refine awp_joinE (ι := Bool) (fun i => [(2, .dat (vbool i))]) (fun i => []) (fun i => message_IsField_J1 i = some r) (fun i => rfl) ?_ ?_
  · skip
    refine awp_plain hN rfl ?_
    refine seq_run0 (stp_move (.dat _) rfl) ?_
    refine seq_run0 (stp_len_str tyU9 rfl) ?_
    refine seq_run0 (stp_leq rfl rfl) ?_
    refine seq_run0 (stp_move (.dat _) rfl) ?_
    refine seq_split (j := 3) rfl rfl (fun h2 => ?_) (fun h2 => ?_) rfl
    · have h3 := un1 h2
      replace H := ift h3 H
      refine seq_g0 rfl rfl h2 (stp_move (.dat _) rfl) ?_
      obtain ⟨r4, h5, H⟩ := bnd H
      refine seq_g0 rfl rfl h2 (stp_call (k_message_isRange s1 32 126 r4 h5) ⟨.inl rfl, .inl rfl, .inl rfl, trivial⟩) ?_
      refine seq_run0 (stp_pick_t rfl (bTT h3) rfl) ?_
      refine seq_run0 (stp_move (.dat _) rfl) ?_
      refine seq_split (j := 7) rfl rfl (fun h6 => ?_) (fun h6 => ?_) rfl
      · have h7 := un1 h6
        replace H := ift h7 H
        refine seq_g0 rfl rfl h6 (stp_move (.dat _) rfl) ?_
        obtain ⟨r8, h9, H⟩ := bnd H
        refine seq_g0 rfl rfl h6 (stp_call (k_strings_Trim s1 [32] r8 h9) ⟨.inl rfl, .inl rfl, trivial⟩) ?_
        refine seq_g0 rfl rfl h6 (stp_move (.dat _) rfl) ?_
        refine seq_g0 rfl rfl h6 (stp_seql rfl rfl) ?_
        refine seq_run0 (stp_pick_t rfl (bTT h7) rfl) ?_
        refine seq_run0 (stp_assign (.dat _) rfl) ?_
        exact ⟨decide (r8 = s1), H, ⟨rfl, trivial⟩, trivial⟩
      · have h10 := un2 h6
        replace H := iff_ h10 H
        refine seq_skip rfl rfl h6 ?_
        refine seq_skip rfl rfl h6 ?_
        refine seq_skip rfl rfl h6 ?_
        refine seq_skip rfl rfl h6 ?_
        refine seq_run0 (stp_pick_f rfl (bFF h10) rfl) ?_
        refine seq_run0 (stp_assign (.dat _) rfl) ?_
        exact ⟨false, H, ⟨rfl, trivial⟩, trivial⟩
    · have h11 := un2 h2
      replace H := iff_ h11 H
      refine seq_skip rfl rfl h2 ?_
      refine seq_skip rfl rfl h2 ?_
      refine seq_run0 (stp_pick_f rfl (bFF h11) rfl) ?_
      refine seq_run0 (stp_move (.dat _) rfl) ?_
      refine seq_skip rfl rfl rfl ?_
      refine seq_skip rfl rfl rfl ?_
      refine seq_skip rfl rfl rfl ?_
      refine seq_skip rfl rfl rfl ?_
      refine seq_run0 (stp_pick_f rfl rfl rfl) ?_
      refine seq_run0 (stp_assign (.dat _) rfl) ?_
      exact ⟨false, H, ⟨rfl, trivial⟩, trivial⟩
  · rintro v12 H
    replace H : message_IsField_J1 v12 = some r := H
    unfold message_IsField_J1 at H
    refine awp_ret ?_
    cases H
    exact ⟨trivial, .inl rfl, trivial⟩
theorem k_message_CheckHeaders (l1 : (List S_api_Header)) (r : (Int)) (H : m_message_CheckHeaders l1 = some r) : Fn Tryz.prog 60 [vlst (List.map C_api_Header l1)] (resOf [vint r]) := by
  refine ⟨by kernel_rfl, pure_of (us := [vint r]) Tryz.func60 rfl rfl rfl rfl fun X hN => ?_⟩
  unfold m_message_CheckHeaders at H
  refine awp_seq ?_
  refine awp_plain hN rfl ?_
  refine seq_run0 (stp_assign (.dat _) rfl) ?_
  refine awp_seq ?_
  refine awp_seq ?_
  refine awp_plain hN rfl ?_
  refine seq_run0 (stp_move (.dat _) rfl) ?_
  refine seq_run0 (t_len tyU26 rfl) ?_
  refine seq_run0 (stp_gtr rfl rfl) ?_
  refine awp_cond _ rfl (fun h2 => ?_) (fun h2 => ?_)
  · replace H := ift h2 H
    refine awp_seq ?_
    refine awp_plain hN rfl ?_
    refine seq_run0 (stp_assign (.dat _) rfl) ?_
    refine awp_ret ?_
    cases H
    exact ⟨trivial, .inl rfl, trivial⟩
  · replace H := iff_ h2 H
    refine awp_skip ?_
    refine awp_seq ?_
    refine awp_seq ?_
    refine awp_plain hN rfl ?_
    refine seq_run0 (stp_move (.dat _) rfl) ?_
    refine seq_run0 (t_len tyU26 rfl) ?_
    refine seq_run0 (stp_move (.dat _) rfl) ?_
    refine awp_block ?_
    obtain ⟨h5, H⟩ := gif H
    refine awp_forL (fun (k3 : Nat) (s : Unit) => [(8, .dat (vlst (List.map C_api_Header l1))), (9, .dat (vint (l1.length : Int))), (10, .dat (vint (k3 : Int)))]) (fun (k3 : Nat) (s : Unit) => []) () H ⟨rfl, rfl, rfl, trivial⟩ trivial (fun _ _ => rfl) ?_ ?_
    · rintro ⟨⟩ H
      replace H : message_CheckHeaders_E1 = some r := H
      unfold message_CheckHeaders_E1 at H
      refine awp_seq ?_
      refine awp_plain hN rfl ?_
      refine seq_run0 (stp_lss rfl rfl) ?_
      refine awp_seq ?_
      refine awp_cond _ rfl (fun h => (lt_t h).elim) (fun h => ?_)
      refine awp_exit ?_
      refine awp_seq ?_
      refine awp_plain hN rfl ?_
      refine seq_run0 (stp_assign (.dat _) rfl) ?_
      refine awp_ret ?_
      cases H
      exact ⟨trivial, .inl rfl, trivial⟩
    · rintro k3 x6 ⟨⟩ q4 h7 h8 H hq4
      replace H : message_CheckHeaders_L1 k3 x6 = some q4 := H
      unfold message_CheckHeaders_L1 at H
      refine awp_seq ?_
      refine awp_plain hN rfl ?_
      refine seq_run0 (stp_lss rfl rfl) ?_
      refine awp_seq ?_
      refine awp_cond _ rfl (fun h => ?_) (fun h => (lt_f h7 h).elim)
      refine awp_skip ?_
      refine awp_seq ?_
      refine awp_block ?_
      refine awp_seq ?_
      refine awp_plain hN rfl ?_
      refine seq_run0 (t_idx tyE26 (fun _ => rfl) rfl rfl h8) ?_
      refine seq_run0 (stp_loadEA tyS70 rfl (map_at h8) rfl) ?_
      refine seq_run2 (stp_alloc 1 tyZ70 rfl) rfl ?_
      refine seq_run2 (stp_storeW tyS70 rfl rfl rfl rfl) rfl ?_
      refine awp_seq ?_
      refine awp_seq ?_
      refine awp_plain hN rfl ?_
      refine seq_run0 (stp_fldP tyF70_0 rfl) ?_
      refine seq_run1 (stp_load1 tyS9 rfl rfl) rfl ?_
      obtain ⟨r9, h10, H⟩ := bnd H
      refine seq_run0 (stp_call (k_message_IsToken x6.Name r9 h10) ⟨.inl rfl, trivial⟩) ?_
      refine seq_run0 (stp_not rfl) ?_
      refine awp_cond _ rfl (fun h11 => ?_) (fun h11 => ?_)
      · replace H := ift h11 H
        refine awp_seq ?_
        refine awp_plain hN rfl ?_
        refine seq_run0 (stp_assign (.dat _) rfl) ?_
        refine awp_ret ?_
        replace H := retl H hq4
        cases H
        exact ⟨trivial, .inl rfl, trivial⟩
      · replace H := iff_ h11 H
        refine awp_skip ?_
        refine awp_seq ?_
        refine awp_plain hN rfl ?_
        refine seq_run0 (stp_fldP tyF70_1 rfl) ?_
        refine seq_run1 (stp_load1 tyS9 rfl rfl) rfl ?_
        obtain ⟨r12, h13, H⟩ := bnd H
        refine seq_run0 (stp_call (k_message_IsField x6.Value r12 h13) ⟨.inl rfl, trivial⟩) ?_
        refine seq_run0 (stp_not rfl) ?_
        refine awp_cond _ rfl (fun h14 => ?_) (fun h14 => ?_)
        · replace H := ift h14 H
          refine awp_seq ?_
          refine awp_plain hN rfl ?_
          refine seq_run0 (stp_assign (.dat _) rfl) ?_
          refine awp_ret ?_
          replace H := retl H hq4
          cases H
          exact ⟨trivial, .inl rfl, trivial⟩
        · replace H := iff_ h14 H
          refine awp_skip ?_
          refine awp_plain hN rfl ?_
          refine seq_run0 (stp_add rfl rfl (by omega)) ?_
          refine seq_run0 (stp_move (.dat _) rfl) ?_
          exact ⟨_, backl H, ⟨rfl, rfl, rfl, trivial⟩, trivial⟩
theorem k_message_CheckRequest (r1 : S_api_Request) (r : (Int)) (H : m_message_CheckRequest r1 = some r) : Fn Tryz.prog 26 [vagg (C_api_Request r1)] (resOf [vint r]) := by
  refine ⟨by kernel_rfl, pure_of (us := [vint r]) Tryz.func26 rfl rfl rfl rfl fun X hN => ?_⟩
  unfold m_message_CheckRequest at H
  refine awp_seq ?_
  refine awp_plain hN rfl ?_
  refine seq_run2 (stp_boxA 1 rfl) rfl ?_
  refine seq_run0 (stp_assign (.dat _) rfl) ?_
  refine awp_seq ?_
  refine awp_seq ?_
  refine awp_plain hN rfl ?_
  refine seq_run0 (stp_fldP tyF28_0 rfl) ?_
  refine seq_run1 (stp_load1 tyS3 rfl rfl) rfl ?_
  obtain ⟨r2, h3, H⟩ := bnd H
  refine seq_run0 (stp_call (k_kit_IsMoment r1.At r2 h3) ⟨.inl rfl, trivial⟩) ?_
  refine seq_run0 (stp_not rfl) ?_
  refine awp_cond _ rfl (fun h4 => ?_) (fun h4 => ?_)
  · replace H := ift h4 H
    refine awp_seq ?_
    refine awp_plain hN rfl ?_
    refine seq_run0 (stp_assign (.dat _) rfl) ?_
    refine awp_ret ?_
    cases H
    exact ⟨trivial, .inl rfl, trivial⟩
  · replace H := iff_ h4 H
    refine awp_skip ?_
    refine awp_seq ?_
    refine awp_seq ?_
    refine awp_plain hN rfl ?_
    refine seq_run0 (stp_fldP tyF28_1 rfl) ?_
    refine seq_run1 (stp_load1 tyS9 rfl rfl) rfl ?_
    obtain ⟨r5, h6, H⟩ := bnd H
    refine seq_run0 (stp_call (k_message_IsToken r1.Method r5 h6) ⟨.inl rfl, trivial⟩) ?_
    refine seq_run0 (stp_not rfl) ?_
    refine awp_cond _ rfl (fun h7 => ?_) (fun h7 => ?_)
    · replace H := ift h7 H
      refine awp_seq ?_
      refine awp_plain hN rfl ?_
      refine seq_run0 (stp_assign (.dat _) rfl) ?_
      refine awp_ret ?_
      cases H
      exact ⟨trivial, .inl rfl, trivial⟩
    · replace H := iff_ h7 H
      refine awp_skip ?_
      refine awp_seq ?_
      refine awp_joinE (ι := Bool) (fun i => [(1, .ptr 1 0), (33, .dat (vbool i))]) (fun i => [(1, .box none 28 [.dat (vint r1.At), .dat (vstr r1.Method), .dat (vstr r1.Host), .dat (vstr r1.Path), .dat (vstr r1.Query), .dat (vstr r1.From), .dat (vlst (List.map C_api_Header r1.Headers)), .dat (vstr r1.Body)])]) (fun i => message_CheckRequest_J1 r1 i = some r) (fun i => rfl) ?_ ?_
      · skip
        refine awp_plain hN rfl ?_
        refine seq_run0 (stp_fldP tyF28_2 rfl) ?_
        refine seq_run1 (stp_load1 tyS9 rfl rfl) rfl ?_
        obtain ⟨r8, h9, H⟩ := bnd H
        refine seq_run0 (stp_call (k_message_isHost r1.Host r8 h9) ⟨.inl rfl, trivial⟩) ?_
        refine seq_run0 (stp_not rfl) ?_
        refine seq_run0 (stp_move (.dat _) rfl) ?_
        refine seq_split (j := 4) rfl rfl (fun h10 => ?_) (fun h10 => ?_) rfl
        · have h11 := un3 h10
          replace H := iff_ h11 H
          refine seq_g0 rfl rfl h10 (stp_fldP tyF28_3 rfl) ?_
          refine seq_g1 rfl rfl h10 (stp_load1 tyS9 rfl rfl) rfl ?_
          obtain ⟨r12, h13, H⟩ := bnd H
          refine seq_g0 rfl rfl h10 (stp_call (k_message_PathFault r1.Path r12 h13) ⟨.inl rfl, trivial⟩) ?_
          refine seq_g0 rfl rfl h10 (stp_neq rfl rfl) ?_
          refine seq_run0 (stp_pick_f rfl (bFF h11) rfl) ?_
          refine seq_run0 (stp_move (.dat _) rfl) ?_
          refine seq_split (j := 10) rfl rfl (fun h14 => ?_) (fun h14 => ?_) rfl
          · have h15 := un3 h14
            replace H := iff_ h15 H
            refine seq_g0 rfl rfl h14 (stp_fldP tyF28_4 rfl) ?_
            refine seq_g1 rfl rfl h14 (stp_load1 tyS9 rfl rfl) rfl ?_
            obtain ⟨r16, h17, H⟩ := bnd H
            refine seq_g0 rfl rfl h14 (stp_call (k_message_queryFault r1.Query r16 h17) ⟨.inl rfl, trivial⟩) ?_
            refine seq_g0 rfl rfl h14 (stp_neq rfl rfl) ?_
            refine seq_run0 (stp_pick_f rfl (bFF h15) rfl) ?_
            refine seq_run0 (stp_move (.dat _) rfl) ?_
            refine seq_split (j := 16) rfl rfl (fun h18 => ?_) (fun h18 => ?_) rfl
            · have h19 := un3 h18
              replace H := iff_ h19 H
              refine seq_g0 rfl rfl h18 (stp_fldP tyF28_5 rfl) ?_
              refine seq_g1 rfl rfl h18 (stp_load1 tyS9 rfl rfl) rfl ?_
              obtain ⟨r20, h21, H⟩ := bnd H
              refine seq_g0 rfl rfl h18 (stp_call (k_message_IsField r1.From r20 h21) ⟨.inl rfl, trivial⟩) ?_
              refine seq_g0 rfl rfl h18 (stp_not rfl) ?_
              refine seq_run0 (stp_pick_f rfl (bFF h19) rfl) ?_
              exact ⟨!r20, H, ⟨rfl, rfl, trivial⟩, ⟨rfl, trivial⟩⟩
            · have h22 := un4 h18
              replace H := ift h22 H
              refine seq_skip rfl rfl h18 ?_
              refine seq_skip rfl rfl h18 ?_
              refine seq_skip rfl rfl h18 ?_
              refine seq_skip rfl rfl h18 ?_
              refine seq_run0 (stp_pick_t rfl (bTT h22) rfl) ?_
              exact ⟨true, H, ⟨rfl, rfl, trivial⟩, ⟨rfl, trivial⟩⟩
          · have h23 := un4 h14
            replace H := ift h23 H
            refine seq_skip rfl rfl h14 ?_
            refine seq_skip rfl rfl h14 ?_
            refine seq_skip rfl rfl h14 ?_
            refine seq_skip rfl rfl h14 ?_
            refine seq_run0 (stp_pick_t rfl (bTT h23) rfl) ?_
            refine seq_run0 (stp_move (.dat _) rfl) ?_
            refine seq_skip rfl rfl rfl ?_
            refine seq_skip rfl rfl rfl ?_
            refine seq_skip rfl rfl rfl ?_
            refine seq_skip rfl rfl rfl ?_
            refine seq_run0 (stp_pick_t rfl rfl rfl) ?_
            exact ⟨true, H, ⟨rfl, rfl, trivial⟩, ⟨rfl, trivial⟩⟩
        · have h24 := un4 h10
          replace H := ift h24 H
          refine seq_skip rfl rfl h10 ?_
          refine seq_skip rfl rfl h10 ?_
          refine seq_skip rfl rfl h10 ?_
          refine seq_skip rfl rfl h10 ?_
          refine seq_run0 (stp_pick_t rfl (bTT h24) rfl) ?_
          refine seq_run0 (stp_move (.dat _) rfl) ?_
          refine seq_skip rfl rfl rfl ?_
          refine seq_skip rfl rfl rfl ?_
          refine seq_skip rfl rfl rfl ?_
          refine seq_skip rfl rfl rfl ?_
          refine seq_run0 (stp_pick_t rfl rfl rfl) ?_
          refine seq_run0 (stp_move (.dat _) rfl) ?_
          refine seq_skip rfl rfl rfl ?_
          refine seq_skip rfl rfl rfl ?_
          refine seq_skip rfl rfl rfl ?_
          refine seq_skip rfl rfl rfl ?_
          refine seq_run0 (stp_pick_t rfl rfl rfl) ?_
          exact ⟨true, H, ⟨rfl, rfl, trivial⟩, ⟨rfl, trivial⟩⟩
      · rintro v25 H
        replace H : message_CheckRequest_J1 r1 v25 = some r := H
        unfold message_CheckRequest_J1 at H
        refine awp_cond _ rfl (fun h26 => ?_) (fun h26 => ?_)
        · replace H := ift h26 H
          refine awp_seq ?_
          refine awp_plain hN rfl ?_
          refine seq_run0 (stp_assign (.dat _) rfl) ?_
          refine awp_ret ?_
          cases H
          exact ⟨trivial, .inl rfl, trivial⟩
        · replace H := iff_ h26 H
          refine awp_skip ?_
          refine awp_seq ?_
          refine awp_seq ?_
          refine awp_plain hN rfl ?_
          refine seq_run0 (stp_fldP tyF28_6 rfl) ?_
          refine seq_run1 (stp_load1 tyS26 rfl rfl) rfl ?_
          obtain ⟨r27, h28, H⟩ := bnd H
          refine seq_run0 (stp_call (k_message_CheckHeaders r1.Headers r27 h28) ⟨.inl rfl, trivial⟩) ?_
          refine seq_run0 (stp_assign (.dat _) rfl) ?_
          refine awp_seq ?_
          refine awp_plain hN rfl ?_
          refine seq_run0 (stp_move (.dat _) rfl) ?_
          refine seq_run0 (stp_neq rfl rfl) ?_
          refine awp_cond _ rfl (fun h29 => ?_) (fun h29 => ?_)
          · replace H := ift h29 H
            refine awp_seq ?_
            refine awp_plain hN rfl ?_
            refine seq_run0 (stp_move (.dat _) rfl) ?_
            refine seq_run0 (stp_assign (.dat _) rfl) ?_
            refine awp_ret ?_
            cases H
            exact ⟨trivial, .inl rfl, trivial⟩
          · replace H := iff_ h29 H
            refine awp_skip ?_
            refine awp_seq ?_
            refine awp_seq ?_
            refine awp_plain hN rfl ?_
            refine seq_run0 (stp_fldP tyF28_7 rfl) ?_
            refine seq_run1 (stp_load1 tyS9 rfl rfl) rfl ?_
            refine seq_run0 (stp_len_str tyU9 rfl) ?_
            refine seq_run0 (stp_gtr rfl rfl) ?_
            refine awp_cond _ rfl (fun h30 => ?_) (fun h30 => ?_)
            · replace H := ift h30 H
              refine awp_seq ?_
              refine awp_plain hN rfl ?_
              refine seq_run0 (stp_assign (.dat _) rfl) ?_
              refine awp_ret ?_
              cases H
              exact ⟨trivial, .inl rfl, trivial⟩
            · replace H := iff_ h30 H
              refine awp_skip ?_
              refine awp_seq ?_
              refine awp_plain hN rfl ?_
              refine seq_run0 (stp_assign (.dat _) rfl) ?_
              refine awp_ret ?_
              cases H
              exact ⟨trivial, .inl rfl, trivial⟩
theorem kb_strings_Builder_WriteString (l1 : (List Int)) (s2 : Bs) (r : (Int × Int × (List Int))) (H : m_strings_Builder_WriteString l1 s2 = some r) : FnG Tryz.prog 27 [.ptr 0 0, .dat (vstr s2)] [(0, .box (some 0) 53 [.nptr 0, .row 1 l1.length]), (1, .row 5 1 (List.map C_uint8 l1))] (.dat (resOf [vint r.1, verr r.2.1])) [(0, .box (some 0) 53 [.nptr 0, .row 900 r.2.2.length]), (900, .row 5 1 (List.map C_uint8 r.2.2))] := by
  refine fnG_of (by kernel_rfl) Tryz.func27 rfl rfl rfl rfl fun X A hN => ?_
  refine awp_cv ?_
  unfold m_strings_Builder_WriteString at H
  refine awp_seq ?_
  refine awp_plain hN rfl ?_
  refine seq_run0 (stp_assign (.dat _) rfl) ?_
  refine seq_run0 (stp_assign (.dat _) rfl) ?_
  refine awp_seq ?_
  refine awp_plain hN rfl ?_
  refine seq_run0 (stp_move (.ptr _ _) rfl) ?_
  refine seq_run2 (stp_cc cc_prog rfl) rfl ?_
  refine awp_seq ?_
  refine awp_plain hN rfl ?_
  refine seq_run0 (stp_move (.ptr _ _) rfl) ?_
  refine seq_run0 (stp_move (.ptr _ _) rfl) ?_
  refine seq_run0 (stp_nilP rfl) ?_
  refine seq_run0 (stp_fldP tyF53_1 rfl) ?_
  refine seq_run1 (stp_load1 tyS51 rfl rfl) rfl ?_
  refine seq_run0 (stp_move (.dat _) rfl) ?_
  obtain ⟨h3, H⟩ := gif H
  refine seq_run2 (t_appS (C := C_uint8) (fun _ => rfl) (show tyB8 Tryz.prog 51 9 5 from ⟨by kernel_rfl, by kernel_rfl, by kernel_rfl⟩) rfl rfl rfl h3) rfl ?_
  refine seq_run0 (stp_nilP rfl) ?_
  refine seq_run0 (stp_fldP tyF53_1 rfl) ?_
  refine seq_run4 (stp_storeS tyS51 rfl rfl (by rw [List.length_map]) rfl) rfl rfl ?_
  refine awp_seq ?_
  refine awp_plain hN rfl ?_
  refine seq_run0 (stp_move (.dat _) rfl) ?_
  refine seq_run0 (stp_len_str tyU9 rfl) ?_
  refine seq_run0 (stp_assign (.dat _) rfl) ?_
  refine seq_run0 (stp_assign (.dat _) rfl) ?_
  refine awp_ret ?_
  cases H
  show Cv _ _ _ _
  refine cv_ren (rn [(1, 900)]) [(4, .dat (vint (s2.length : Int))), (5, .dat (verr 0))] [(0, .box (some (A.bl 0)) 53 [.nptr 0, .row 1 ((l1 ++ numsB s2).length)]), (1, .row 5 1 (List.map C_uint8 (l1 ++ numsB s2)))] ⟨rfl, rfl, trivial⟩ ⟨rfl, rfl, trivial⟩ rfl rfl ?_
  exact ⟨trivial, [(4, .dat (vint (s2.length : Int))), (5, .dat (verr 0))], ⟨rfl, rfl, trivial⟩, ⟨rfl, rfl, trivial⟩, rfl, .inl ⟨[vint (s2.length : Int), verr 0], ⟨rfl, rfl, trivial⟩, rfl⟩⟩
theorem kr_slices_Clone_L_api_Header_api_Header_ (l r : List S_api_Header) (H : m_slices_Clone l = some r) : FnG Tryz.prog 64 [.dat (vlst (List.map C_api_Header l))] [] (.row 900 r.length) [(900, .row 70 2 (List.map C_api_Header r))] := by
  obtain ⟨hl, rfl⟩ := clone_some H
  refine fnG_of (by kernel_rfl) Tryz.func64 rfl rfl rfl rfl fun X A hN => ?_
  refine awp_nilcase 0 rfl (fun h0 => ?_) ?_
  · obtain rfl := List.map_eq_nil_iff.1 h0
    refine awp_seq ?_
    refine awp_plain hN rfl ?_
    refine seq_run0 (stp_assign (.dat _) rfl) ?_
    refine awp_seq ?_
    refine awp_seq ?_
    refine awp_plain hN rfl ?_
    refine seq_run0 (stp_move (.dat _) rfl) ?_
    refine seq_run0 (stp_eqnil_t tyU26 rfl) ?_
    refine awp_cond _ rfl (fun h => ?_) (fun h => by cases h)
    refine awp_seq ?_
    refine awp_plain hN rfl ?_
    refine seq_run0 (stp_assign (.dat _) rfl) ?_
    refine awp_nilrow 2 900 70 2 rfl rfl rfl ?_
    refine awp_ret ?_
    exact ⟨trivial, [(2, .row 900 0)], ⟨rfl, trivial⟩, ⟨rfl, trivial⟩, rfl, .inr ⟨2, rfl, rfl⟩⟩
  · refine awp_seq ?_
    refine awp_plain hN rfl ?_
    refine seq_run0 (stp_assign (.dat _) rfl) ?_
    refine awp_seq ?_
    refine awp_seq ?_
    refine awp_plain hN rfl ?_
    refine seq_run0 (stp_move (.dat _) rfl) ?_
    refine seq_run0 (stp_eqnil_f tyU26 rfl) ?_
    refine awp_cond _ rfl (fun h => by cases h) (fun h => ?_)
    refine awp_skip ?_
    refine awp_seq ?_
    refine awp_wk 0 (u' := vlst (List.map C_api_Header l)) rfl wk_nn ?_
    refine awp_plain hN rfl ?_
    refine seq_run2 (stp_lit0 900 tyL26) rfl ?_
    refine seq_run0 (stp_move (.dat _) rfl) ?_
    refine seq_run2 (t_app2 (C := C_api_Header) (xs := []) tyL26 (fun _ => rfl) rfl rfl rfl (by simpa using hl) rfl) rfl ?_
    refine seq_run0 (stp_assign (.row _ _) rfl) ?_
    refine awp_ret ?_
    exact ⟨trivial, [(2, .row 900 l.length)], ⟨rfl, trivial⟩, ⟨rfl, trivial⟩, rfl, .inr ⟨2, rfl, rfl⟩⟩
theorem k_slices_Clone_L_api_Header_api_Header_ (l r : List S_api_Header) (H : m_slices_Clone l = some r) : Fn Tryz.prog 64 [vlst (List.map C_api_Header l)] (resOf [vlst (List.map C_api_Header r)]) := by
  have h := kr_slices_Clone_L_api_Header_api_Header_ l r H
  rw [← List.length_map (f := C_api_Header)] at h
  exact fn_of_fnG h
theorem k_slices_IndexFunc_L_api_Header_api_Header_ (s1 : (List S_api_Header)) (p1 : S_api_Header → Option (Bool)) (fv1 : Nat) (us1 : List V) (hp1 : ∀ a0 r, p1 a0 = some r → Fn Tryz.prog fv1 ([vagg (C_api_Header a0)] ++ us1) (resOf [vbool r])) (r : (Int)) (H : m_slices_IndexFunc_L_api_Header_api_Header_ s1 p1 = some r) : Fn Tryz.prog 90 [vlst (List.map C_api_Header s1), vfn fv1 us1] (resOf [vint r]) := by
  refine ⟨by kernel_rfl, pure_of (us := [vint r]) Tryz.func90 rfl rfl rfl rfl fun X hN => ?_⟩
  unfold m_slices_IndexFunc_L_api_Header_api_Header_ at H
  refine awp_seq ?_
  refine awp_plain hN rfl ?_
  refine seq_run0 (stp_assign (.dat _) rfl) ?_
  refine awp_seq ?_
  refine awp_seq ?_
  refine awp_plain hN rfl ?_
  refine seq_run0 (stp_move (.dat _) rfl) ?_
  refine seq_run0 (t_len tyU26 rfl) ?_
  refine seq_run0 (stp_move (.dat _) rfl) ?_
  refine awp_block ?_
  obtain ⟨h4, H⟩ := gif H
  refine awp_forL (fun (k2 : Nat) (s : Unit) => [(0, .dat (vlst (List.map C_api_Header s1))), (1, .dat (vfn fv1 us1)), (7, .dat (vint (s1.length : Int))), (8, .dat (vint (k2 : Int)))]) (fun (k2 : Nat) (s : Unit) => []) () H ⟨rfl, rfl, rfl, rfl, trivial⟩ trivial (fun _ _ => rfl) ?_ ?_
  · rintro ⟨⟩ H
    replace H : slices_IndexFunc_L_api_Header_api_Header__E1 = some r := H
    unfold slices_IndexFunc_L_api_Header_api_Header__E1 at H
    refine awp_seq ?_
    refine awp_plain hN rfl ?_
    refine seq_run0 (stp_lss rfl rfl) ?_
    refine awp_seq ?_
    refine awp_cond _ rfl (fun h => (lt_t h).elim) (fun h => ?_)
    refine awp_exit ?_
    refine awp_seq ?_
    refine awp_plain hN rfl ?_
    refine seq_run0 (stp_assign (.dat _) rfl) ?_
    refine awp_ret ?_
    cases H
    exact ⟨trivial, .inl rfl, trivial⟩
  · rintro k2 x5 ⟨⟩ q3 h6 h7 H hq3
    replace H : slices_IndexFunc_L_api_Header_api_Header__L1 p1 k2 x5 = some q3 := H
    unfold slices_IndexFunc_L_api_Header_api_Header__L1 at H
    refine awp_seq ?_
    refine awp_plain hN rfl ?_
    refine seq_run0 (stp_lss rfl rfl) ?_
    refine awp_seq ?_
    refine awp_cond _ rfl (fun h => ?_) (fun h => (lt_f h6 h).elim)
    refine awp_skip ?_
    refine awp_seq ?_
    refine awp_block ?_
    refine awp_seq ?_
    refine awp_plain hN rfl ?_
    refine seq_run0 (stp_move (.dat _) rfl) ?_
    refine seq_run0 (stp_assign (.dat _) rfl) ?_
    refine awp_seq ?_
    refine awp_plain hN rfl ?_
    refine seq_run0 (stp_move (.dat _) rfl) ?_
    refine seq_run0 (stp_move (.dat _) rfl) ?_
    refine seq_run0 (stp_move (.dat _) rfl) ?_
    refine seq_run0 (t_idx tyE26 (fun _ => rfl) rfl rfl h7) ?_
    refine seq_run0 (stp_loadEA tyS70 rfl (map_at h7) rfl) ?_
    obtain ⟨r8, h9, H⟩ := bnd H
    refine seq_run0 (stp_callv (hp1 x5 r8 h9) rfl ⟨.inl rfl, trivial⟩) ?_
    refine awp_cond _ rfl (fun h10 => ?_) (fun h10 => ?_)
    · replace H := ift h10 H
      refine awp_seq ?_
      refine awp_plain hN rfl ?_
      refine seq_run0 (stp_move (.dat _) rfl) ?_
      refine seq_run0 (stp_assign (.dat _) rfl) ?_
      refine awp_ret ?_
      replace H := retl H hq3
      cases H
      exact ⟨trivial, .inl rfl, trivial⟩
    · replace H := iff_ h10 H
      refine awp_skip ?_
      refine awp_plain hN rfl ?_
      refine seq_run0 (stp_add rfl rfl (by omega)) ?_
      refine seq_run0 (stp_move (.dat _) rfl) ?_
      exact ⟨_, backl H, ⟨rfl, rfl, rfl, rfl, trivial⟩, trivial⟩
theorem ks_slices_DeleteFunc_L_api_Header_api_Header_ (s1 : (List S_api_Header)) (p1 : S_api_Header → Option (Bool)) (fv1 : Nat) (us1 : List V) (hp1 : ∀ a0 r, p1 a0 = some r → Fn Tryz.prog fv1 ([vagg (C_api_Header a0)] ++ us1) (resOf [vbool r])) (r : ((List S_api_Header))) (H : m_slices_DeleteFunc_L_api_Header_api_Header_ s1 p1 = some r) : FnG Tryz.prog 63 [.row 0 s1.length, .dat (vfn fv1 us1)] [(0, .row 70 2 (List.map C_api_Header s1))] (.row 900 r.length) [(900, .row 70 2 (List.map C_api_Header r))] := by
  refine fnG_of (by kernel_rfl) Tryz.func63 rfl rfl rfl rfl fun X A hN => ?_
  unfold m_slices_DeleteFunc_L_api_Header_api_Header_ at H
  refine awp_seq ?_
  refine awp_plain hN rfl ?_
  refine seq_run0 (stp_assign (.dat _) rfl) ?_
  refine awp_seq ?_
  refine awp_plain hN rfl ?_
  refine seq_run0 (stp_move (.row _ _) rfl) ?_
  refine seq_run0 (stp_move (.dat _) rfl) ?_
  obtain ⟨r2, h3, H⟩ := bnd H
  refine seq_run1 (stp_callL (id := 0) (es := List.map C_api_Header s1) (k_slices_IndexFunc_L_api_Header_api_Header_ s1 p1 fv1 us1 hp1 r2 h3) ⟨.inr ⟨(congrArg (Slot.row 0) (by rw [List.length_map]) : Slot.row 0 s1.length = _), rfl⟩, .inl (.inl (.inl rfl)), trivial⟩ (fun _ _ _ _ h => h)) rfl ?_
  refine seq_run0 (stp_assign (.dat _) rfl) ?_
  refine awp_seq ?_
  refine awp_seq ?_
  refine awp_plain hN rfl ?_
  refine seq_run0 (stp_move (.dat _) rfl) ?_
  refine seq_run0 (stp_eql rfl rfl) ?_
  refine awp_cond _ rfl (fun h4 => ?_) (fun h4 => ?_)
  · replace H := ift h4 H
    refine awp_seq ?_
    refine awp_plain hN rfl ?_
    refine seq_run0 (stp_move (.row _ _) rfl) ?_
    refine seq_run0 (stp_assign (.row _ _) rfl) ?_
    refine awp_ren 4 0 900 rfl rfl (by rw [List.length_map]) rfl ?_
    refine awp_ret ?_
    cases H
    exact ⟨trivial, [(4, .row 900 _)], ⟨rfl, trivial⟩, ⟨rfl, trivial⟩, rfl, .inr ⟨4, rfl, rfl⟩⟩
  · replace H := iff_ h4 H
    refine awp_skip ?_
    refine awp_joinE (ι := Int × (List S_api_Header)) (fun i => [(0, .row 0 i.2.length), (5, .dat (vint i.1))]) (fun i => [(0, .row 70 2 (List.map C_api_Header i.2))]) (fun i => slices_DeleteFunc_L_api_Header_api_Header__J1 i.1 i.2 = some r) (fun i => rfl) ?_ ?_
    · skip
      refine awp_seq ?_
      refine awp_plain hN rfl ?_
      refine seq_run0 (stp_move (.dat _) rfl) ?_
      refine seq_run0 (stp_wrap _ rfl rfl (.inl ⟨rfl, rfl⟩)) ?_
      refine seq_run0 (stp_assign (.dat _) rfl) ?_
      refine awp_block ?_
      refine awp_iter (fun (s : Int × Int × (List S_api_Header)) => [(0, .row 0 s.2.2.length), (1, .dat (vfn fv1 us1)), (5, .dat (vint s.1)), (6, .dat (vint s.2.1))]) (fun (s : Int × Int × (List S_api_Header)) => [(0, .row 70 2 (List.map C_api_Header s.2.2))]) (r2, wr (r2 + 1), s1) H ⟨rfl, rfl, rfl, rfl, trivial⟩ ⟨rfl, trivial⟩ (fun _ => rfl) ?_
      rintro ⟨i5, j6, l7⟩ q8 H hq8
      replace H : slices_DeleteFunc_L_api_Header_api_Header__L2 p1 i5 j6 l7 = some q8 := H
      unfold slices_DeleteFunc_L_api_Header_api_Header__L2 at H
      refine awp_seq ?_
      refine awp_seq ?_
      refine awp_plain hN rfl ?_
      refine seq_run0 (stp_move (.dat _) rfl) ?_
      refine seq_run0 (stp_move (.row _ _) rfl) ?_
      refine seq_run1 (t_lenR tyU26 rfl rfl) rfl ?_
      refine seq_run0 (stp_lss rfl rfl) ?_
      refine awp_cond _ rfl (fun h9 => ?_) (fun h9 => ?_)
      · replace H := ift h9 H
        refine awp_skip ?_
        refine awp_joinE (ι := Int × (List S_api_Header)) (fun i => [(0, .row 0 i.2.length), (1, .dat (vfn fv1 us1)), (5, .dat (vint i.1)), (6, .dat (vint j6))]) (fun i => [(0, .row 70 2 (List.map C_api_Header i.2))]) (fun i => slices_DeleteFunc_L_api_Header_api_Header__J3 j6 i.1 i.2 = some q8) (fun i => rfl) ?_ ?_
        · skip
          refine awp_block ?_
          refine awp_seq ?_
          refine awp_plain hN rfl ?_
          refine seq_run0 (stp_move (.row _ _) rfl) ?_
          refine seq_run0 (stp_move (.dat _) rfl) ?_
          obtain ⟨x10, h11, H⟩ := bnd H
          refine seq_run1 (t_idxRI tyE26 rfl rfl rfl h11) rfl ?_
          refine seq_run1 (t_loadRA tyS70 rfl rfl (at_some h11).2 rfl) rfl ?_
          refine seq_run2 (stp_alloc 1 tyZ70 rfl) rfl ?_
          refine seq_run2 (stp_storeW tyS70 rfl rfl rfl rfl) rfl ?_
          refine awp_seq ?_
          refine awp_plain hN rfl ?_
          refine seq_run0 (stp_move (.dat _) rfl) ?_
          refine seq_run1 (stp_loadA tyS70 rfl rfl rfl) rfl ?_
          obtain ⟨r12, h13, H⟩ := bnd H
          refine seq_run0 (stp_callv (hp1 x10 r12 h13) rfl ⟨.inl rfl, trivial⟩) ?_
          refine seq_run0 (stp_not rfl) ?_
          refine awp_cond _ rfl (fun h14 => ?_) (fun h14 => ?_)
          · replace H := ift h14 H
            refine awp_seq ?_
            refine awp_plain hN rfl ?_
            refine seq_run0 (stp_move (.row _ _) rfl) ?_
            refine seq_run0 (stp_move (.dat _) rfl) ?_
            refine seq_run1 (stp_loadA tyS70 rfl rfl rfl) rfl ?_
            obtain ⟨x15, h16, H⟩ := bnd H
            refine seq_run1 (t_idxRI tyE26 rfl rfl rfl h16) rfl ?_
            refine seq_run2 (t_storeRA (C := C_api_Header) tyS70 rfl rfl rfl (at_lt (at_some h16).2) rfl rfl) rfl ?_
            refine awp_plain hN rfl ?_
            refine seq_run0 (stp_move (.dat _) rfl) ?_
            refine seq_run0 (stp_wrap _ rfl rfl (.inl ⟨rfl, rfl⟩)) ?_
            refine seq_run0 (stp_assign (.dat _) rfl) ?_
            exact ⟨(wr (i5 + 1), (l7.set i5.toNat x10)), H, ⟨congrArg (Slot.row 0) (by simp), rfl, rfl, rfl, trivial⟩, ⟨rfl, trivial⟩⟩
          · replace H := iff_ h14 H
            refine awp_skip ?_
            exact ⟨(i5, l7), H, ⟨rfl, rfl, rfl, rfl, trivial⟩, ⟨rfl, trivial⟩⟩
        · rintro ⟨i17, s18⟩ H
          replace H : slices_DeleteFunc_L_api_Header_api_Header__J3 j6 i17 s18 = some q8 := H
          unfold slices_DeleteFunc_L_api_Header_api_Header__J3 at H
          refine awp_plain hN rfl ?_
          refine seq_run0 (stp_move (.dat _) rfl) ?_
          refine seq_run0 (stp_wrap _ rfl rfl (.inl ⟨rfl, rfl⟩)) ?_
          refine seq_run0 (stp_assign (.dat _) rfl) ?_
          exact ⟨_, backl H, ⟨rfl, rfl, rfl, rfl, trivial⟩, ⟨rfl, trivial⟩⟩
      · replace H := iff_ h9 H
        refine awp_exit ?_
        replace H := outl H hq8
        exact ⟨(i5, l7), H, ⟨rfl, rfl, trivial⟩, ⟨rfl, trivial⟩⟩
    · rintro ⟨i19, s20⟩ H
      replace H : slices_DeleteFunc_L_api_Header_api_Header__J1 i19 s20 = some r := H
      unfold slices_DeleteFunc_L_api_Header_api_Header__J1 at H
      refine awp_seq ?_
      refine awp_plain hN rfl ?_
      refine seq_run0 (stp_move (.row _ _) rfl) ?_
      refine seq_run0 (stp_move (.dat _) rfl) ?_
      obtain ⟨h21, H⟩ := gif H
      refine seq_run1 (t_rsub (C := C_api_Header) tyE26 rfl rfl rfl h21) rfl ?_
      refine seq_run2 (t_clear (C := C_api_Header) (S_api_Header.mk [] []) tyU26 tyZ70 rfl rfl rfl rfl rfl h21) rfl ?_
      refine awp_seq ?_
      refine awp_plain hN rfl ?_
      refine seq_run0 (stp_move (.row _ _) rfl) ?_
      refine seq_run0 (stp_move (.dat _) rfl) ?_
      obtain ⟨h22, H⟩ := gif H
      refine seq_run3 (t_cut (C := C_api_Header) 2 tyE26 rfl (clr_len (S_api_Header.mk [] []) h21) rfl h22) rfl rfl ?_
      refine seq_run0 (stp_assign (.row _ _) rfl) ?_
      refine awp_ren 4 2 900 rfl rfl (by rw [List.length_map]; exact (cut_len h22)) rfl ?_
      refine awp_ret ?_
      cases H
      exact ⟨trivial, [(4, .row 900 _)], ⟨rfl, trivial⟩, ⟨rfl, trivial⟩, rfl, .inr ⟨4, rfl, congrArg (Slot.row 900) (by simp <;> omega)⟩⟩
theorem k_strings_EqualFold (s t : Bs) (r : Bool) (H : m_strings_EqualFold s t = some r) : Fn Tryz.prog 91 [vstr s, vstr t] (resOf [vbool r]) := by
  unfold m_strings_EqualFold at H
  obtain ⟨⟨h1, h2, h3⟩, h4⟩ := gif H
  cases h4
  refine fn_of_callsG (by kernel_rfl) fun M w vs hM h => ?_
  have hv := Ts_vals (us := [.string ⟨s.toArray⟩, .string ⟨t.toArray⟩]) h
  subst hv
  refine (Tryz.strings_EqualFold ⟨s.toArray⟩ ⟨t.toArray⟩ w (by simp [ByteArray.size]; omega) (fun j b hb => ascB_at h2 j b (by simpa using hb)) (fun j b hb => ascB_at h3 j b (by simpa using hb))).mono ?_
  rintro e w' ⟨rfl, rfl⟩
  exact ⟨_, rfl, rfl, Kp.refl _ _⟩

theorem k_message_isNamed (h1 : S_api_Header) (name2 : Bs) (r : (Bool)) (H : m_message_isNamed h1 name2 = some r) : Fn Tryz.prog 66 [vagg (C_api_Header h1), vstr name2] (resOf [vbool r]) := by
  refine ⟨by kernel_rfl, pure_of (us := [vbool r]) Tryz.func66 rfl rfl rfl rfl fun X hN => ?_⟩
  unfold m_message_isNamed at H
  refine awp_seq ?_
  refine awp_plain hN rfl ?_
  refine seq_run2 (stp_boxA 1 rfl) rfl ?_
  refine seq_run0 (stp_assign (.dat _) rfl) ?_
  refine awp_seq ?_
  refine awp_plain hN rfl ?_
  refine seq_run0 (stp_fldP tyF70_0 rfl) ?_
  refine seq_run1 (stp_load1 tyS9 rfl rfl) rfl ?_
  refine seq_run0 (stp_move (.dat _) rfl) ?_
  obtain ⟨r3, h4, H⟩ := bnd H
  refine seq_run0 (stp_call (k_strings_EqualFold h1.Name name2 r3 h4) ⟨.inl rfl, .inl rfl, trivial⟩) ?_
  refine seq_run0 (stp_assign (.dat _) rfl) ?_
  refine awp_ret ?_
  cases H
  exact ⟨trivial, .inl rfl, trivial⟩
theorem k_message_without_1 (h1 : S_api_Header) (c2 : Bs) (r : (Bool)) (H : m_message_without_1 h1 c2 = some r) : Fn Tryz.prog 65 [vagg (C_api_Header h1), vcell [[vstr c2]] 0 0] (resOf [vbool r]) := by
  refine ⟨by kernel_rfl, pure_of (us := [vbool r]) Tryz.func65 rfl rfl rfl rfl fun X hN => ?_⟩
  unfold m_message_without_1 at H
  refine awp_seq ?_
  refine awp_plain hN rfl ?_
  refine seq_run2 (stp_boxA 1 rfl) rfl ?_
  refine seq_run0 (stp_assign (.dat _) rfl) ?_
  refine awp_seq ?_
  refine awp_plain hN rfl ?_
  refine seq_run1 (stp_loadA tyS70 rfl rfl rfl) rfl ?_
  refine seq_run0 (stp_loadE1 tyS9 rfl rfl rfl) ?_
  obtain ⟨r3, h4, H⟩ := bnd H
  refine seq_run0 (stp_call (k_message_isNamed h1 c2 r3 h4) ⟨.inl rfl, .inl rfl, trivial⟩) ?_
  refine seq_run0 (stp_assign (.dat _) rfl) ?_
  refine awp_ret ?_
  cases H
  exact ⟨trivial, .inl rfl, trivial⟩
theorem k_message_without (l1 : (List S_api_Header)) (name2 : Bs) (r : ((List S_api_Header))) (H : m_message_without l1 name2 = some r) : Fn Tryz.prog 29 [vlst (List.map C_api_Header l1), vstr name2] (resOf [vlst (List.map C_api_Header r)]) := by
  refine ⟨by kernel_rfl, pure_of (us := [vlst (List.map C_api_Header r)]) Tryz.func29 rfl rfl rfl rfl fun X hN => ?_⟩
  unfold m_message_without at H
  refine awp_seq ?_
  refine awp_plain hN rfl ?_
  refine seq_run2 (stp_box1 1 rfl rfl) rfl ?_
  refine seq_run0 (stp_assign (.dat _) rfl) ?_
  refine awp_seq ?_
  refine awp_frzB 1 [vstr name2] rfl rfl ?_
  refine awp_plain hN rfl ?_
  refine seq_run0 (stp_move (.dat _) rfl) ?_
  obtain ⟨r3, h4, H⟩ := bnd H
  refine seq_callG (rn [(900, 2)]) [] [(900, _)] (kr_slices_Clone_L_api_Header_api_Header_ l1 r3 h4) ⟨rfl, trivial⟩ ⟨.inl (.inl rfl), trivial⟩ trivial rfl ?_
  refine seq_run0 (stp_mkfn (us := [_]) ⟨rfl, trivial⟩) ?_
  obtain ⟨r5, h6, H⟩ := bnd H
  refine seq_callG (rn [(0, 2), (900, 3)]) [(0, _, _, none)] [(900, _)] (ks_slices_DeleteFunc_L_api_Header_api_Header_ r3 (fun (a0 : S_api_Header) => m_message_without_1 a0 name2) 65 [vcell [[vstr name2]] 0 0] (fun a0 r h => k_message_without_1 a0 name2 r h) r5 h6) ⟨rfl, rfl, trivial⟩ ⟨.inl (.inl rfl), .inl (.inl rfl), trivial⟩ ⟨⟨⟨rfl, rfl, rfl⟩, trivial⟩, trivial⟩ rfl ?_
  refine seq_run0 (stp_assign (.row _ _) rfl) ?_
  refine awp_ret ?_
  cases H
  exact ⟨trivial, t_slotv rfl rfl, trivial⟩
theorem k_message_isFraming (h1 : S_api_Header) (r : (Bool)) (H : m_message_isFraming h1 = some r) : Fn Tryz.prog 62 [vagg (C_api_Header h1)] (resOf [vbool r]) := by
  refine ⟨by kernel_rfl, pure_of (us := [vbool r]) Tryz.func62 rfl rfl rfl rfl fun X hN => ?_⟩
  unfold m_message_isFraming at H
  refine awp_seq ?_
  refine awp_plain hN rfl ?_
  refine seq_run2 (stp_boxA 1 rfl) rfl ?_
  refine seq_run0 (stp_assign (.dat _) rfl) ?_
  refine awp_joinE (ι := Bool) (fun i => [(2, .dat (vbool i))]) (fun i => []) (fun i => message_isFraming_J1 i = some r) (fun i => rfl) ?_ ?_
  · skip
    refine awp_plain hN rfl ?_
    refine seq_run1 (stp_loadA tyS70 rfl rfl rfl) rfl ?_
    obtain ⟨r2, h3, H⟩ := bnd H
    refine seq_run0 (stp_call (k_message_isNamed h1 [99, 111, 110, 116, 101, 110, 116, 45, 108, 101, 110, 103, 116, 104] r2 h3) ⟨.inl rfl, .inl rfl, trivial⟩) ?_
    refine seq_run0 (stp_move (.dat _) rfl) ?_
    refine seq_split (j := 2) rfl rfl (fun h4 => ?_) (fun h4 => ?_) rfl
    · have h5 := un3 h4
      replace H := iff_ h5 H
      refine seq_g1 rfl rfl h4 (stp_loadA tyS70 rfl rfl rfl) rfl ?_
      obtain ⟨r6, h7, H⟩ := bnd H
      refine seq_g0 rfl rfl h4 (stp_call (k_message_isNamed h1 [116, 114, 97, 110, 115, 102, 101, 114, 45, 101, 110, 99, 111, 100, 105, 110, 103] r6 h7) ⟨.inl rfl, .inl rfl, trivial⟩) ?_
      refine seq_run0 (stp_pick_f rfl (bFF h5) rfl) ?_
      refine seq_run0 (stp_assign (.dat _) rfl) ?_
      exact ⟨r6, H, ⟨rfl, trivial⟩, trivial⟩
    · have h8 := un4 h4
      replace H := ift h8 H
      refine seq_skip rfl rfl h4 ?_
      refine seq_skip rfl rfl h4 ?_
      refine seq_run0 (stp_pick_t rfl (bTT h8) rfl) ?_
      refine seq_run0 (stp_assign (.dat _) rfl) ?_
      exact ⟨true, H, ⟨rfl, trivial⟩, trivial⟩
  · rintro v9 H
    replace H : message_isFraming_J1 v9 = some r := H
    unfold message_isFraming_J1 at H
    refine awp_ret ?_
    cases H
    exact ⟨trivial, .inl rfl, trivial⟩
theorem kb_message_headerLines (l1 : (List Int)) (l2 : (List S_api_Header)) (r : ((List Int))) (H : m_message_headerLines l1 l2 = some r) : FnG Tryz.prog 28 [.ptr 0 0, .dat (vlst (List.map C_api_Header l2))] [(0, .box (some 0) 53 [.nptr 0, .row 1 l1.length]), (1, .row 5 1 (List.map C_uint8 l1))] (.dat (resOf [])) [(0, .box (some 0) 53 [.nptr 0, .row 900 r.length]), (900, .row 5 1 (List.map C_uint8 r))] := by
  refine fnG_of (by kernel_rfl) Tryz.func28 rfl rfl rfl rfl fun X A hN => ?_
  refine awp_cv ?_
  unfold m_message_headerLines at H
  refine awp_seq ?_
  refine awp_plain hN rfl ?_
  refine seq_run0 (stp_move (.dat _) rfl) ?_
  refine seq_run0 (t_len tyU26 rfl) ?_
  refine seq_run0 (stp_move (.dat _) rfl) ?_
  refine awp_block ?_
  obtain ⟨h6, H⟩ := gif H
  refine awp_forL (fun (k4 : Nat) (s : (List Int)) => [(0, .ptr 0 0), (6, .dat (vlst (List.map C_api_Header l2))), (7, .dat (vint (l2.length : Int))), (8, .dat (vint (k4 : Int)))]) (fun (k4 : Nat) (s : (List Int)) => [(0, .box (some (A.bl 0)) 53 [.nptr 0, .row 1 s.length]), (1, .row 5 1 (List.map C_uint8 s))]) l1 H ⟨rfl, rfl, rfl, rfl, trivial⟩ ⟨rfl, rfl, trivial⟩ (fun _ _ => rfl) ?_ ?_
  · rintro l3 H
    replace H : message_headerLines_E1 l3 = some r := H
    unfold message_headerLines_E1 at H
    refine awp_seq ?_
    refine awp_plain hN rfl ?_
    refine seq_run0 (stp_lss rfl rfl) ?_
    refine awp_seq ?_
    refine awp_cond _ rfl (fun h => (lt_t h).elim) (fun h => ?_)
    refine awp_exit ?_
    have eH : l3 = r := Option.some.inj H
    subst eH
    show Cv _ _ _ _
    refine cv_ren (rn [(1, 900)]) [] [(0, .box (some (A.bl 0)) 53 [.nptr 0, .row 1 l3.length]), (1, .row 5 1 (List.map C_uint8 l3))] trivial ⟨rfl, rfl, trivial⟩ rfl rfl ?_
    exact ⟨trivial, [], trivial, ⟨rfl, rfl, trivial⟩, rfl, .inl ⟨[], trivial, rfl⟩⟩
  · rintro k4 x7 l3 q5 h8 h9 H hq5
    replace H : message_headerLines_L1 k4 x7 l3 = some q5 := H
    unfold message_headerLines_L1 at H
    refine awp_cv ?_
    refine awp_seq ?_
    refine awp_plain hN rfl ?_
    refine seq_run0 (stp_lss rfl rfl) ?_
    refine awp_seq ?_
    refine awp_cond _ rfl (fun h => ?_) (fun h => (lt_f h8 h).elim)
    refine awp_skip ?_
    refine awp_joinE (ι := (List Int)) (fun i => [(0, .ptr 0 0), (6, .dat (vlst (List.map C_api_Header l2))), (7, .dat (vint (l2.length : Int))), (8, .dat (vint (k4 : Int)))]) (fun i => [(0, .box (some (A.bl 0)) 53 [.nptr 0, .row 4 i.length]), (4, .row 5 1 (List.map C_uint8 i))]) (fun i => message_headerLines_J2 i = some q5) (fun i => rfl) ?_ ?_
    · refine awp_cv ?_
      refine awp_block ?_
      refine awp_seq ?_
      refine awp_plain hN rfl ?_
      refine seq_run0 (t_idx tyE26 (fun _ => rfl) rfl rfl h9) ?_
      refine seq_run0 (stp_loadEA tyS70 rfl (map_at h9) rfl) ?_
      refine seq_run2 (stp_alloc 2 tyZ70 rfl) rfl ?_
      refine seq_run2 (stp_storeW tyS70 rfl rfl rfl rfl) rfl ?_
      refine awp_seq ?_
      refine awp_plain hN rfl ?_
      refine seq_run1 (stp_loadA tyS70 rfl rfl rfl) rfl ?_
      obtain ⟨r10, h11, H⟩ := bnd H
      refine seq_run0 (stp_call (k_message_isFraming x7 r10 h11) ⟨.inl rfl, trivial⟩) ?_
      refine seq_run0 (stp_not rfl) ?_
      refine awp_cond _ rfl (fun h12 => ?_) (fun h12 => ?_)
      · replace H := ift h12 H
        refine awp_plain hN rfl ?_
        refine seq_run0 (stp_move (.ptr _ _) rfl) ?_
        refine seq_run0 (stp_fldP tyF70_0 rfl) ?_
        refine seq_run1 (stp_load1 tyS9 rfl rfl) rfl ?_
        obtain ⟨h13, H⟩ := gif H
        refine seq_run0 (stp_sadd rfl rfl (Nat.le_trans h13 (by decide))) ?_
        refine seq_run0 (stp_fldP tyF70_1 rfl) ?_
        refine seq_run1 (stp_load1 tyS9 rfl rfl) rfl ?_
        obtain ⟨h14, H⟩ := gif H
        refine seq_run0 (stp_sadd rfl rfl (Nat.le_trans h14 (by decide))) ?_
        obtain ⟨h15, H⟩ := gif H
        refine seq_run0 (stp_sadd rfl rfl (Nat.le_trans h15 (by decide))) ?_
        obtain ⟨r16, h17, H⟩ := bnd H
        refine seq_callG (rn [(0, 0), (1, 1), (900, 3)]) [(0, _, _, some _), (1, _, _, none)] [(900, _)] (kb_strings_Builder_WriteString l3 (((x7.Name ++ [58, 32]) ++ x7.Value) ++ [13, 10]) r16 h17) ⟨rfl, rfl, rfl, trivial⟩ ⟨.inl (.inl rfl), .inl (.inl rfl), trivial⟩ ⟨⟨⟨rfl, rfl⟩, trivial⟩, ⟨⟨rfl, rfl, rfl⟩, trivial⟩, trivial⟩ rfl ?_
        refine seq_end ?_
        show Cv _ _ _ _
        refine cv_ren (rn [(3, 4)]) [(0, .ptr 0 0), (6, .dat (vlst (List.map C_api_Header l2))), (7, .dat (vint (l2.length : Int))), (8, .dat (vint (k4 : Int)))] [(0, .box (some (A.bl 0)) 53 [.nptr 0, .row 3 r16.2.2.length]), (3, .row 5 1 (List.map C_uint8 r16.2.2))] ⟨rfl, rfl, rfl, rfl, trivial⟩ ⟨rfl, rfl, trivial⟩ rfl rfl ?_
        exact ⟨r16.2.2, H, ⟨rfl, rfl, rfl, rfl, trivial⟩, ⟨rfl, rfl, trivial⟩⟩
      · replace H := iff_ h12 H
        refine awp_skip ?_
        show Cv _ _ _ _
        refine cv_ren (rn [(1, 4)]) [(0, .ptr 0 0), (6, .dat (vlst (List.map C_api_Header l2))), (7, .dat (vint (l2.length : Int))), (8, .dat (vint (k4 : Int)))] [(0, .box (some (A.bl 0)) 53 [.nptr 0, .row 1 l3.length]), (1, .row 5 1 (List.map C_uint8 l3))] ⟨rfl, rfl, rfl, rfl, trivial⟩ ⟨rfl, rfl, trivial⟩ rfl rfl ?_
        exact ⟨l3, H, ⟨rfl, rfl, rfl, rfl, trivial⟩, ⟨rfl, rfl, trivial⟩⟩
    · rintro l18 H
      replace H : message_headerLines_J2 l18 = some q5 := H
      unfold message_headerLines_J2 at H
      refine awp_plain hN rfl ?_
      refine seq_run0 (stp_add rfl rfl (by omega)) ?_
      refine seq_run0 (stp_move (.dat _) rfl) ?_
      refine seq_end ?_
      show Cv _ _ _ _
      refine cv_ren (rn [(4, 1)]) [(0, .ptr 0 0), (6, .dat (vlst (List.map C_api_Header l2))), (7, .dat (vint (l2.length : Int))), (8, .dat (vint ((k4 : Int) + 1)))] [(0, .box (some (A.bl 0)) 53 [.nptr 0, .row 4 l18.length]), (4, .row 5 1 (List.map C_uint8 l18))] ⟨rfl, rfl, rfl, rfl, trivial⟩ ⟨rfl, rfl, trivial⟩ rfl rfl ?_
      exact ⟨_, backl H, ⟨rfl, rfl, rfl, rfl, trivial⟩, ⟨rfl, rfl, trivial⟩⟩
theorem k_strconv_Itoa (n : Int) (r : Bs) (H : m_strconv_Itoa n = some r) : Fn Tryz.prog 30 [vint n] (resOf [vstr r]) := by
  obtain ⟨⟨h1, h2⟩, h3⟩ := gif H
  cases h3
  refine fn_of_callsG (by kernel_rfl) fun M w vs hM h => ?_
  have hv := Ts_vals (us := [.int .i64 n]) h
  subst hv
  refine (Tryz.strconv_Itoa n h1 h2 w (pow10_tab hM)).mono ?_
  rintro e w' ⟨rfl, k, os, rfl⟩
  exact ⟨_, rfl, rfl, Kp.of_below ⟨rfl, rfl, rfl, by show w.heap.size ≤ (w.heap ++ os).size; rw [Array.size_append]; omega, fun j hj => by show (w.heap ++ os)[j]? = w.heap[j]?; exact Array.getElem?_append_left hj⟩⟩
theorem k_message_WriteRequest (r1 : S_api_Request) (r : (Bs × Int)) (H : m_message_WriteRequest r1 = some r) : Fn Tryz.prog 6 [vagg (C_api_Request r1)] (resOf [vstr r.1, vint r.2]) := by
  refine ⟨by kernel_rfl, pure_of (us := [vstr r.1, vint r.2]) Tryz.func6 rfl rfl rfl rfl fun X hN => ?_⟩
  unfold m_message_WriteRequest at H
  refine awp_seq ?_
  refine awp_plain hN rfl ?_
  refine seq_run2 (stp_boxA 1 rfl) rfl ?_
  refine seq_run0 (stp_assign (.dat _) rfl) ?_
  refine seq_run0 (stp_assign (.dat _) rfl) ?_
  refine awp_seq ?_
  refine awp_seq ?_
  refine awp_plain hN rfl ?_
  refine seq_run1 (stp_loadA tyS28 rfl rfl rfl) rfl ?_
  obtain ⟨r2, h3, H⟩ := bnd H
  refine seq_run0 (stp_call (k_message_CheckRequest r1 r2 h3) ⟨.inl rfl, trivial⟩) ?_
  refine seq_run0 (stp_assign (.dat _) rfl) ?_
  refine awp_seq ?_
  refine awp_plain hN rfl ?_
  refine seq_run0 (stp_move (.dat _) rfl) ?_
  refine seq_run0 (stp_neq rfl rfl) ?_
  refine awp_cond _ rfl (fun h4 => ?_) (fun h4 => ?_)
  · replace H := ift h4 H
    refine awp_seq ?_
    refine awp_plain hN rfl ?_
    refine seq_run0 (stp_move (.dat _) rfl) ?_
    refine seq_run0 (stp_assign (.dat _) rfl) ?_
    refine seq_run0 (stp_assign (.dat _) rfl) ?_
    refine awp_ret ?_
    cases H
    exact ⟨trivial, .inl rfl, .inl rfl, trivial⟩
  · replace H := iff_ h4 H
    refine awp_skip ?_
    refine awp_seq ?_
    refine awp_plain hN rfl ?_
    refine seq_run2 (stp_alloc 2 tyZ53 rfl) rfl ?_
    refine awp_wkB 2 0 (.nptr 2) rfl rfl nptr_nil ?_
    refine awp_nilrowB 2 1 3 5 1 rfl rfl rfl rfl ?_
    refine awp_seq ?_
    refine awp_plain hN rfl ?_
    refine seq_run0 (stp_fldP tyF28_1 rfl) ?_
    refine seq_run1 (stp_load1 tyS9 rfl rfl) rfl ?_
    obtain ⟨h5, H⟩ := gif H
    refine seq_run0 (stp_sadd rfl rfl (Nat.le_trans h5 (by decide))) ?_
    refine seq_run0 (stp_fldP tyF28_3 rfl) ?_
    refine seq_run1 (stp_load1 tyS9 rfl rfl) rfl ?_
    obtain ⟨h6, H⟩ := gif H
    refine seq_run0 (stp_sadd rfl rfl (Nat.le_trans h6 (by decide))) ?_
    obtain ⟨r7, h8, H⟩ := bnd H
    refine seq_callG (rn [(0, 2), (1, 3), (900, 4)]) [(0, _, _, some _), (1, _, _, none)] [(900, _)] (kb_strings_Builder_WriteString ([] : List Int) ((r1.Method ++ [32]) ++ r1.Path) r7 h8) ⟨rfl, rfl, rfl, trivial⟩ ⟨.inl (.inl rfl), .inl (.inl rfl), trivial⟩ ⟨⟨⟨rfl, rfl⟩, trivial⟩, ⟨⟨rfl, rfl, rfl⟩, trivial⟩, trivial⟩ rfl ?_
    refine awp_joinE (ι := (List Int)) (fun i => [(1, .ptr 1 0), (5, .ptr 2 0)]) (fun i => [(1, .box none 28 [.dat (vint r1.At), .dat (vstr r1.Method), .dat (vstr r1.Host), .dat (vstr r1.Path), .dat (vstr r1.Query), .dat (vstr r1.From), .dat (vlst (List.map C_api_Header r1.Headers)), .dat (vstr r1.Body)]), (2, .box none 53 [.nptr 2, .row 6 i.length]), (6, .row 5 1 (List.map C_uint8 i))]) (fun i => message_WriteRequest_J1 r1 i = some r) (fun i => rfl) ?_ ?_
    · refine awp_cv ?_
      refine awp_seq ?_
      refine awp_plain hN rfl ?_
      refine seq_run0 (stp_fldP tyF28_4 rfl) ?_
      refine seq_run1 (stp_load1 tyS9 rfl rfl) rfl ?_
      refine seq_run0 (stp_sneq rfl rfl) ?_
      refine awp_cond _ rfl (fun h9 => ?_) (fun h9 => ?_)
      · replace H := ift h9 H
        refine awp_plain hN rfl ?_
        refine seq_run0 (stp_fldP tyF28_4 rfl) ?_
        refine seq_run1 (stp_load1 tyS9 rfl rfl) rfl ?_
        obtain ⟨h10, H⟩ := gif H
        refine seq_run0 (stp_sadd rfl rfl (Nat.le_trans h10 (by decide))) ?_
        obtain ⟨r11, h12, H⟩ := bnd H
        refine seq_callG (rn [(0, 2), (1, 4), (900, 5)]) [(0, _, _, some _), (1, _, _, none)] [(900, _)] (kb_strings_Builder_WriteString r7.2.2 ([63] ++ r1.Query) r11 h12) ⟨rfl, rfl, rfl, trivial⟩ ⟨.inl (.inl rfl), .inl (.inl rfl), trivial⟩ ⟨⟨⟨rfl, rfl⟩, trivial⟩, ⟨⟨rfl, rfl, rfl⟩, trivial⟩, trivial⟩ rfl ?_
        refine seq_end ?_
        show Cv _ _ _ _
        refine cv_ren (rn [(5, 6)]) [(1, .ptr 1 0), (5, .ptr 2 0)] [(1, .box none 28 [.dat (vint r1.At), .dat (vstr r1.Method), .dat (vstr r1.Host), .dat (vstr r1.Path), .dat (vstr r1.Query), .dat (vstr r1.From), .dat (vlst (List.map C_api_Header r1.Headers)), .dat (vstr r1.Body)]), (2, .box none 53 [.nptr 2, .row 5 r11.2.2.length]), (5, .row 5 1 (List.map C_uint8 r11.2.2))] ⟨rfl, rfl, trivial⟩ ⟨rfl, rfl, rfl, trivial⟩ rfl rfl ?_
        exact ⟨r11.2.2, H, ⟨rfl, rfl, trivial⟩, ⟨rfl, rfl, rfl, trivial⟩⟩
      · replace H := iff_ h9 H
        refine awp_skip ?_
        show Cv _ _ _ _
        refine cv_ren (rn [(4, 6)]) [(1, .ptr 1 0), (5, .ptr 2 0)] [(1, .box none 28 [.dat (vint r1.At), .dat (vstr r1.Method), .dat (vstr r1.Host), .dat (vstr r1.Path), .dat (vstr r1.Query), .dat (vstr r1.From), .dat (vlst (List.map C_api_Header r1.Headers)), .dat (vstr r1.Body)]), (2, .box none 53 [.nptr 2, .row 4 r7.2.2.length]), (4, .row 5 1 (List.map C_uint8 r7.2.2))] ⟨rfl, rfl, trivial⟩ ⟨rfl, rfl, rfl, trivial⟩ rfl rfl ?_
        exact ⟨r7.2.2, H, ⟨rfl, rfl, trivial⟩, ⟨rfl, rfl, rfl, trivial⟩⟩
    · rintro l13 H
      replace H : message_WriteRequest_J1 r1 l13 = some r := H
      unfold message_WriteRequest_J1 at H
      refine awp_seq ?_
      refine awp_plain hN rfl ?_
      refine seq_run0 (stp_fldP tyF28_2 rfl) ?_
      refine seq_run1 (stp_load1 tyS9 rfl rfl) rfl ?_
      obtain ⟨h14, H⟩ := gif H
      refine seq_run0 (stp_sadd rfl rfl (Nat.le_trans h14 (by decide))) ?_
      obtain ⟨h15, H⟩ := gif H
      refine seq_run0 (stp_sadd rfl rfl (Nat.le_trans h15 (by decide))) ?_
      obtain ⟨r16, h17, H⟩ := bnd H
      refine seq_callG (rn [(0, 2), (1, 6), (900, 7)]) [(0, _, _, some _), (1, _, _, none)] [(900, _)] (kb_strings_Builder_WriteString l13 (([32, 72, 84, 84, 80, 47, 49, 46, 49, 13, 10, 104, 111, 115, 116, 58, 32] ++ r1.Host) ++ [13, 10]) r16 h17) ⟨rfl, rfl, rfl, trivial⟩ ⟨.inl (.inl rfl), .inl (.inl rfl), trivial⟩ ⟨⟨⟨rfl, rfl⟩, trivial⟩, ⟨⟨rfl, rfl, rfl⟩, trivial⟩, trivial⟩ rfl ?_
      refine awp_seq ?_
      refine awp_plain hN rfl ?_
      refine seq_run0 (stp_fldP tyF28_6 rfl) ?_
      refine seq_run1 (stp_load1 tyS26 rfl rfl) rfl ?_
      obtain ⟨r18, h19, H⟩ := bnd H
      refine seq_run0 (stp_call (k_message_without r1.Headers [104, 111, 115, 116] r18 h19) ⟨.inl rfl, .inl rfl, trivial⟩) ?_
      obtain ⟨r20, h21, H⟩ := bnd H
      refine seq_callG (rn [(0, 2), (1, 7), (900, 8)]) [(0, _, _, some _), (1, _, _, none)] [(900, _)] (kb_message_headerLines r16.2.2 r18 r20 h21) ⟨rfl, rfl, rfl, trivial⟩ ⟨.inl (.inl rfl), .inl (.inl rfl), trivial⟩ ⟨⟨⟨rfl, rfl⟩, trivial⟩, ⟨⟨rfl, rfl, rfl⟩, trivial⟩, trivial⟩ rfl ?_
      refine awp_joinE (ι := (List Int)) (fun i => [(1, .ptr 1 0), (5, .ptr 2 0)]) (fun i => [(1, .box none 28 [.dat (vint r1.At), .dat (vstr r1.Method), .dat (vstr r1.Host), .dat (vstr r1.Path), .dat (vstr r1.Query), .dat (vstr r1.From), .dat (vlst (List.map C_api_Header r1.Headers)), .dat (vstr r1.Body)]), (2, .box none 53 [.nptr 2, .row 10 i.length]), (10, .row 5 1 (List.map C_uint8 i))]) (fun i => message_WriteRequest_J2 r1 i = some r) (fun i => rfl) ?_ ?_
      · refine awp_cv ?_
        refine awp_seq ?_
        refine awp_plain hN rfl ?_
        refine seq_run0 (stp_fldP tyF28_7 rfl) ?_
        refine seq_run1 (stp_load1 tyS9 rfl rfl) rfl ?_
        refine seq_run0 (stp_sneq rfl rfl) ?_
        refine awp_cond _ rfl (fun h22 => ?_) (fun h22 => ?_)
        · replace H := ift h22 H
          refine awp_plain hN rfl ?_
          refine seq_run0 (stp_fldP tyF28_7 rfl) ?_
          refine seq_run1 (stp_load1 tyS9 rfl rfl) rfl ?_
          refine seq_run0 (stp_len_str tyU9 rfl) ?_
          obtain ⟨r23, h24, H⟩ := bnd H
          refine seq_run0 (stp_call (k_strconv_Itoa (r1.Body.length : Int) r23 h24) ⟨.inl rfl, trivial⟩) ?_
          obtain ⟨h25, H⟩ := gif H
          refine seq_run0 (stp_sadd rfl rfl (Nat.le_trans h25 (by decide))) ?_
          obtain ⟨h26, H⟩ := gif H
          refine seq_run0 (stp_sadd rfl rfl (Nat.le_trans h26 (by decide))) ?_
          obtain ⟨r27, h28, H⟩ := bnd H
          refine seq_callG (rn [(0, 2), (1, 8), (900, 9)]) [(0, _, _, some _), (1, _, _, none)] [(900, _)] (kb_strings_Builder_WriteString r20 (([99, 111, 110, 116, 101, 110, 116, 45, 108, 101, 110, 103, 116, 104, 58, 32] ++ r23) ++ [13, 10]) r27 h28) ⟨rfl, rfl, rfl, trivial⟩ ⟨.inl (.inl rfl), .inl (.inl rfl), trivial⟩ ⟨⟨⟨rfl, rfl⟩, trivial⟩, ⟨⟨rfl, rfl, rfl⟩, trivial⟩, trivial⟩ rfl ?_
          refine seq_end ?_
          show Cv _ _ _ _
          refine cv_ren (rn [(9, 10)]) [(1, .ptr 1 0), (5, .ptr 2 0)] [(1, .box none 28 [.dat (vint r1.At), .dat (vstr r1.Method), .dat (vstr r1.Host), .dat (vstr r1.Path), .dat (vstr r1.Query), .dat (vstr r1.From), .dat (vlst (List.map C_api_Header r1.Headers)), .dat (vstr r1.Body)]), (2, .box none 53 [.nptr 2, .row 9 r27.2.2.length]), (9, .row 5 1 (List.map C_uint8 r27.2.2))] ⟨rfl, rfl, trivial⟩ ⟨rfl, rfl, rfl, trivial⟩ rfl rfl ?_
          exact ⟨r27.2.2, H, ⟨rfl, rfl, trivial⟩, ⟨rfl, rfl, rfl, trivial⟩⟩
        · replace H := iff_ h22 H
          refine awp_skip ?_
          show Cv _ _ _ _
          refine cv_ren (rn [(8, 10)]) [(1, .ptr 1 0), (5, .ptr 2 0)] [(1, .box none 28 [.dat (vint r1.At), .dat (vstr r1.Method), .dat (vstr r1.Host), .dat (vstr r1.Path), .dat (vstr r1.Query), .dat (vstr r1.From), .dat (vlst (List.map C_api_Header r1.Headers)), .dat (vstr r1.Body)]), (2, .box none 53 [.nptr 2, .row 8 r20.length]), (8, .row 5 1 (List.map C_uint8 r20))] ⟨rfl, rfl, trivial⟩ ⟨rfl, rfl, rfl, trivial⟩ rfl rfl ?_
          exact ⟨r20, H, ⟨rfl, rfl, trivial⟩, ⟨rfl, rfl, rfl, trivial⟩⟩
      · rintro l29 H
        replace H : message_WriteRequest_J2 r1 l29 = some r := H
        unfold message_WriteRequest_J2 at H
        refine awp_seq ?_
        refine awp_plain hN rfl ?_
        refine seq_run0 (stp_fldP tyF28_7 rfl) ?_
        refine seq_run1 (stp_load1 tyS9 rfl rfl) rfl ?_
        obtain ⟨h30, H⟩ := gif H
        refine seq_run0 (stp_sadd rfl rfl (Nat.le_trans h30 (by decide))) ?_
        obtain ⟨r31, h32, H⟩ := bnd H
        refine seq_callG (rn [(0, 2), (1, 10), (900, 11)]) [(0, _, _, some _), (1, _, _, none)] [(900, _)] (kb_strings_Builder_WriteString l29 ([13, 10] ++ r1.Body) r31 h32) ⟨rfl, rfl, rfl, trivial⟩ ⟨.inl (.inl rfl), .inl (.inl rfl), trivial⟩ ⟨⟨⟨rfl, rfl⟩, trivial⟩, ⟨⟨rfl, rfl, rfl⟩, trivial⟩, trivial⟩ rfl ?_
        refine awp_seq ?_
        refine awp_plain hN rfl ?_
        obtain ⟨h33, H⟩ := gif H
        refine seq_callG (rn [(0, 2), (1, 11)]) [(0, _, _, none), (1, _, _, none)] [] (kbs_String h33 (C := C_uint8) (fun _ => rfl)) ⟨rfl, rfl, trivial⟩ ⟨.inl (.inl rfl), trivial⟩ ⟨⟨⟨rfl, rfl⟩, trivial⟩, ⟨⟨rfl, rfl, rfl⟩, trivial⟩, trivial⟩ rfl ?_
        refine seq_run0 (stp_assign (.dat _) rfl) ?_
        refine seq_run0 (stp_assign (.dat _) rfl) ?_
        refine awp_ret ?_
        cases H
        exact ⟨trivial, .inl rfl, .inl rfl, trivial⟩
theorem k_message_CheckResponse (a1 : S_api_Response) (r : (Int)) (H : m_message_CheckResponse a1 = some r) : Fn Tryz.prog 32 [vagg (C_api_Response a1)] (resOf [vint r]) := by
  refine ⟨by kernel_rfl, pure_of (us := [vint r]) Tryz.func32 rfl rfl rfl rfl fun X hN => ?_⟩
  unfold m_message_CheckResponse at H
  refine awp_seq ?_
  refine awp_plain hN rfl ?_
  refine seq_run2 (stp_boxA 1 rfl) rfl ?_
  refine seq_run0 (stp_assign (.dat _) rfl) ?_
  refine awp_seq ?_
  refine awp_seq ?_
  refine awp_plain hN rfl ?_
  refine seq_run0 (stp_fldP tyF31_0 rfl) ?_
  refine seq_run1 (stp_load1 tyS3 rfl rfl) rfl ?_
  obtain ⟨r2, h3, H⟩ := bnd H
  refine seq_run0 (stp_call (k_kit_Outside a1.Status 100 599 r2 h3) ⟨.inl rfl, .inl rfl, .inl rfl, trivial⟩) ?_
  refine awp_cond _ rfl (fun h4 => ?_) (fun h4 => ?_)
  · replace H := ift h4 H
    refine awp_seq ?_
    refine awp_plain hN rfl ?_
    refine seq_run0 (stp_assign (.dat _) rfl) ?_
    refine awp_ret ?_
    cases H
    exact ⟨trivial, .inl rfl, trivial⟩
  · replace H := iff_ h4 H
    refine awp_skip ?_
    refine awp_seq ?_
    refine awp_seq ?_
    refine awp_plain hN rfl ?_
    refine seq_run0 (stp_fldP tyF31_1 rfl) ?_
    refine seq_run1 (stp_load1 tyS26 rfl rfl) rfl ?_
    obtain ⟨r5, h6, H⟩ := bnd H
    refine seq_run0 (stp_call (k_message_CheckHeaders a1.Headers r5 h6) ⟨.inl rfl, trivial⟩) ?_
    refine seq_run0 (stp_assign (.dat _) rfl) ?_
    refine awp_seq ?_
    refine awp_plain hN rfl ?_
    refine seq_run0 (stp_move (.dat _) rfl) ?_
    refine seq_run0 (stp_neq rfl rfl) ?_
    refine awp_cond _ rfl (fun h7 => ?_) (fun h7 => ?_)
    · replace H := ift h7 H
      refine awp_seq ?_
      refine awp_plain hN rfl ?_
      refine seq_run0 (stp_move (.dat _) rfl) ?_
      refine seq_run0 (stp_assign (.dat _) rfl) ?_
      refine awp_ret ?_
      cases H
      exact ⟨trivial, .inl rfl, trivial⟩
    · replace H := iff_ h7 H
      refine awp_skip ?_
      refine awp_seq ?_
      refine awp_seq ?_
      refine awp_plain hN rfl ?_
      refine seq_run0 (stp_fldP tyF31_2 rfl) ?_
      refine seq_run1 (stp_load1 tyS9 rfl rfl) rfl ?_
      refine seq_run0 (stp_len_str tyU9 rfl) ?_
      refine seq_run0 (stp_gtr rfl rfl) ?_
      refine awp_cond _ rfl (fun h8 => ?_) (fun h8 => ?_)
      · replace H := ift h8 H
        refine awp_seq ?_
        refine awp_plain hN rfl ?_
        refine seq_run0 (stp_assign (.dat _) rfl) ?_
        refine awp_ret ?_
        cases H
        exact ⟨trivial, .inl rfl, trivial⟩
      · replace H := iff_ h8 H
        refine awp_skip ?_
        refine awp_seq ?_
        refine awp_plain hN rfl ?_
        refine seq_run0 (stp_assign (.dat _) rfl) ?_
        refine awp_ret ?_
        cases H
        exact ⟨trivial, .inl rfl, trivial⟩
theorem k_message_WriteResponse (a1 : S_api_Response) (r : (Bs × Int)) (H : m_message_WriteResponse a1 = some r) : Fn Tryz.prog 7 [vagg (C_api_Response a1)] (resOf [vstr r.1, vint r.2]) := by
  refine ⟨by kernel_rfl, pure_of (us := [vstr r.1, vint r.2]) Tryz.func7 rfl rfl rfl rfl fun X hN => ?_⟩
  unfold m_message_WriteResponse at H
  refine awp_seq ?_
  refine awp_plain hN rfl ?_
  refine seq_run2 (stp_boxA 1 rfl) rfl ?_
  refine seq_run0 (stp_assign (.dat _) rfl) ?_
  refine seq_run0 (stp_assign (.dat _) rfl) ?_
  refine awp_seq ?_
  refine awp_seq ?_
  refine awp_plain hN rfl ?_
  refine seq_run1 (stp_loadA tyS31 rfl rfl rfl) rfl ?_
  obtain ⟨r2, h3, H⟩ := bnd H
  refine seq_run0 (stp_call (k_message_CheckResponse a1 r2 h3) ⟨.inl rfl, trivial⟩) ?_
  refine seq_run0 (stp_assign (.dat _) rfl) ?_
  refine awp_seq ?_
  refine awp_plain hN rfl ?_
  refine seq_run0 (stp_move (.dat _) rfl) ?_
  refine seq_run0 (stp_neq rfl rfl) ?_
  refine awp_cond _ rfl (fun h4 => ?_) (fun h4 => ?_)
  · replace H := ift h4 H
    refine awp_seq ?_
    refine awp_plain hN rfl ?_
    refine seq_run0 (stp_move (.dat _) rfl) ?_
    refine seq_run0 (stp_assign (.dat _) rfl) ?_
    refine seq_run0 (stp_assign (.dat _) rfl) ?_
    refine awp_ret ?_
    cases H
    exact ⟨trivial, .inl rfl, .inl rfl, trivial⟩
  · replace H := iff_ h4 H
    refine awp_skip ?_
    refine awp_seq ?_
    refine awp_plain hN rfl ?_
    refine seq_run0 (stp_assign (.dat _) rfl) ?_
    refine awp_joinE (ι := Bs) (fun i => [(1, .ptr 1 0), (5, .dat (vstr i))]) (fun i => [(1, .box none 31 [.dat (vint a1.Status), .dat (vlst (List.map C_api_Header a1.Headers)), .dat (vstr a1.Body)])]) (fun i => message_WriteResponse_J1 a1 i = some r) (fun i => rfl) ?_ ?_
    · skip
      refine awp_seq ?_
      refine awp_plain hN rfl ?_
      refine seq_run0 (stp_fldP tyF31_0 rfl) ?_
      refine seq_run1 (stp_load1 tyS3 rfl rfl) rfl ?_
      refine seq_run0 (stp_eql rfl rfl) ?_
      refine awp_cond _ rfl (fun h5 => ?_) (fun h5 => ?_)
      · replace H := ift h5 H
        refine awp_plain hN rfl ?_
        refine seq_run0 (stp_assign (.dat _) rfl) ?_
        exact ⟨[79, 75], H, ⟨rfl, rfl, trivial⟩, ⟨rfl, trivial⟩⟩
      · replace H := iff_ h5 H
        refine awp_skip ?_
        exact ⟨[45], H, ⟨rfl, rfl, trivial⟩, ⟨rfl, trivial⟩⟩
    · rintro reason6 H
      replace H : message_WriteResponse_J1 a1 reason6 = some r := H
      unfold message_WriteResponse_J1 at H
      refine awp_seq ?_
      refine awp_plain hN rfl ?_
      refine seq_run2 (stp_alloc 2 tyZ53 rfl) rfl ?_
      refine awp_wkB 2 0 (.nptr 2) rfl rfl nptr_nil ?_
      refine awp_nilrowB 2 1 3 5 1 rfl rfl rfl rfl ?_
      refine awp_seq ?_
      refine awp_plain hN rfl ?_
      refine seq_run0 (stp_fldP tyF31_0 rfl) ?_
      refine seq_run1 (stp_load1 tyS3 rfl rfl) rfl ?_
      obtain ⟨r7, h8, H⟩ := bnd H
      refine seq_run0 (stp_call (k_strconv_Itoa a1.Status r7 h8) ⟨.inl rfl, trivial⟩) ?_
      obtain ⟨h9, H⟩ := gif H
      refine seq_run0 (stp_sadd rfl rfl (Nat.le_trans h9 (by decide))) ?_
      obtain ⟨h10, H⟩ := gif H
      refine seq_run0 (stp_sadd rfl rfl (Nat.le_trans h10 (by decide))) ?_
      refine seq_run0 (stp_move (.dat _) rfl) ?_
      obtain ⟨h11, H⟩ := gif H
      refine seq_run0 (stp_sadd rfl rfl (Nat.le_trans h11 (by decide))) ?_
      obtain ⟨h12, H⟩ := gif H
      refine seq_run0 (stp_sadd rfl rfl (Nat.le_trans h12 (by decide))) ?_
      obtain ⟨r13, h14, H⟩ := bnd H
      refine seq_callG (rn [(0, 2), (1, 3), (900, 4)]) [(0, _, _, some _), (1, _, _, none)] [(900, _)] (kb_strings_Builder_WriteString ([] : List Int) (((([72, 84, 84, 80, 47, 49, 46, 49, 32] ++ r7) ++ [32]) ++ reason6) ++ [13, 10]) r13 h14) ⟨rfl, rfl, rfl, trivial⟩ ⟨.inl (.inl rfl), .inl (.inl rfl), trivial⟩ ⟨⟨⟨rfl, rfl⟩, trivial⟩, ⟨⟨rfl, rfl, rfl⟩, trivial⟩, trivial⟩ rfl ?_
      refine awp_seq ?_
      refine awp_plain hN rfl ?_
      refine seq_run0 (stp_fldP tyF31_1 rfl) ?_
      refine seq_run1 (stp_load1 tyS26 rfl rfl) rfl ?_
      obtain ⟨r15, h16, H⟩ := bnd H
      refine seq_callG (rn [(0, 2), (1, 4), (900, 5)]) [(0, _, _, some _), (1, _, _, none)] [(900, _)] (kb_message_headerLines r13.2.2 a1.Headers r15 h16) ⟨rfl, rfl, rfl, trivial⟩ ⟨.inl (.inl rfl), .inl (.inl rfl), trivial⟩ ⟨⟨⟨rfl, rfl⟩, trivial⟩, ⟨⟨rfl, rfl, rfl⟩, trivial⟩, trivial⟩ rfl ?_
      refine awp_seq ?_
      refine awp_draw mixed hN rfl rfl ?_
      refine seq_run0 (stp_fldP tyF31_2 rfl) ?_
      refine seq_run1 (stp_load1 tyS9 rfl rfl) rfl ?_
      refine seq_run0 (stp_len_str tyU9 rfl) ?_
      obtain ⟨r17, h18, H⟩ := bnd H
      refine seq_run0 (stp_call (k_strconv_Itoa (a1.Body.length : Int) r17 h18) ⟨.inl rfl, trivial⟩) ?_
      obtain ⟨h19, H⟩ := gif H
      refine seq_run0 (stp_sadd rfl rfl (Nat.le_trans h19 (by decide))) ?_
      obtain ⟨h20, H⟩ := gif H
      refine seq_run0 (stp_sadd rfl rfl (Nat.le_trans h20 (by decide))) ?_
      obtain ⟨h21, H⟩ := gif H
      refine seq_run0 (stp_sadd rfl rfl (Nat.le_trans h21 (by decide))) ?_
      refine seq_run0 (stp_fldP tyF31_2 rfl) ?_
      refine seq_run1 (stp_load1 tyS9 rfl rfl) rfl ?_
      obtain ⟨h22, H⟩ := gif H
      refine seq_run0 (stp_sadd rfl rfl (Nat.le_trans h22 (by decide))) ?_
      obtain ⟨r23, h24, H⟩ := bnd H
      refine seq_callG (rn [(0, 2), (1, 5), (900, 6)]) [(0, _, _, some _), (1, _, _, none)] [(900, _)] (kb_strings_Builder_WriteString r15 (((([99, 111, 110, 116, 101, 110, 116, 45, 108, 101, 110, 103, 116, 104, 58, 32] ++ r17) ++ [13, 10]) ++ [13, 10]) ++ a1.Body) r23 h24) ⟨rfl, rfl, rfl, trivial⟩ ⟨.inl (.inl rfl), .inl (.inl rfl), trivial⟩ ⟨⟨⟨rfl, rfl⟩, trivial⟩, ⟨⟨rfl, rfl, rfl⟩, trivial⟩, trivial⟩ rfl ?_
      refine ⟨rfl, ?_⟩
      refine awp_seq ?_
      refine awp_plain hN rfl ?_
      obtain ⟨h25, H⟩ := gif H
      refine seq_callG (rn [(0, 2), (1, 6)]) [(0, _, _, none), (1, _, _, none)] [] (kbs_String h25 (C := C_uint8) (fun _ => rfl)) ⟨rfl, rfl, trivial⟩ ⟨.inl (.inl rfl), trivial⟩ ⟨⟨⟨rfl, rfl⟩, trivial⟩, ⟨⟨rfl, rfl, rfl⟩, trivial⟩, trivial⟩ rfl ?_
      refine seq_run0 (stp_assign (.dat _) rfl) ?_
      refine seq_run0 (stp_assign (.dat _) rfl) ?_
      refine awp_ret ?_
      cases H
      exact ⟨trivial, .inl rfl, .inl rfl, trivial⟩
theorem k_gateref2_in (n1 : Int) (low2 : Int) (high3 : Int) (r : (Bool)) (H : m_gateref2_in n1 low2 high3 = some r) : Fn Tryz.prog 41 [vint n1, vint low2, vint high3] (resOf [vbool r]) := by
  refine ⟨by kernel_rfl, pure_of (us := [vbool r]) Tryz.func41 rfl rfl rfl rfl fun X hN => ?_⟩
  unfold m_gateref2_in at H
  refine awp_seq ?_
  refine awp_plain hN rfl ?_
  refine seq_run0 (stp_assign (.dat _) rfl) ?_
  refine awp_seq ?_
  refine awp_plain hN rfl ?_
  refine seq_run0 (stp_move (.dat _) rfl) ?_
  refine seq_run0 (stp_move (.dat _) rfl) ?_
  refine seq_run0 (stp_leq rfl rfl) ?_
  refine seq_run0 (stp_move (.dat _) rfl) ?_
  refine seq_aT rfl rfl (fun hc => stp_move (.dat _) rfl) ?_
  refine seq_aT rfl rfl (fun hc => stp_move (.dat _) rfl) ?_
  refine seq_aT rfl rfl (fun hc => stp_leq (cnd (c := (decide (low2 ≤ n1))) hc) (cnd (c := (decide (low2 ≤ n1))) hc)) ?_
  refine seq_run0 (stp_pick_and rfl (fun hb => (cnd (c := (decide (low2 ≤ n1))) hb)) rfl) ?_
  refine seq_run0 (stp_assign (.dat _) rfl) ?_
  refine awp_ret ?_
  cases H
  exact ⟨trivial, .inl rfl, trivial⟩
theorem k_gateref2_Moment (v1 : Int) (r : (Bool)) (H : m_gateref2_Moment v1 = some r) : Fn Tryz.prog 33 [vint v1] (resOf [vbool r]) := by
  refine ⟨by kernel_rfl, pure_of (us := [vbool r]) Tryz.func33 rfl rfl rfl rfl fun X hN => ?_⟩
  unfold m_gateref2_Moment at H
  refine awp_seq ?_
  refine awp_plain hN rfl ?_
  refine seq_run0 (stp_assign (.dat _) rfl) ?_
  refine awp_seq ?_
  refine awp_plain hN rfl ?_
  refine seq_run0 (stp_move (.dat _) rfl) ?_
  obtain ⟨r2, h3, H⟩ := bnd H
  refine seq_run0 (stp_call (k_gateref2_in v1 0 345686399999 r2 h3) ⟨.inl rfl, .inl rfl, .inl rfl, trivial⟩) ?_
  refine seq_run0 (stp_assign (.dat _) rfl) ?_
  refine awp_ret ?_
  cases H
  exact ⟨trivial, .inl rfl, trivial⟩
theorem k_gateref2_only (s1 : Bs) (some2 : Bs) (r : (Bool)) (H : m_gateref2_only s1 some2 = some r) : Fn Tryz.prog 69 [vstr s1, vstr some2] (resOf [vbool r]) := by
  refine ⟨by kernel_rfl, pure_of (us := [vbool r]) Tryz.func69 rfl rfl rfl rfl fun X hN => ?_⟩
  unfold m_gateref2_only at H
  refine awp_seq ?_
  refine awp_plain hN rfl ?_
  refine seq_run0 (stp_assign (.dat _) rfl) ?_
  refine awp_seq ?_
  refine awp_seq ?_
  refine awp_plain hN rfl ?_
  refine seq_run0 (stp_move (.dat _) rfl) ?_
  refine seq_run0 (stp_len_str tyU9 rfl) ?_
  refine seq_run0 (stp_move (.dat _) rfl) ?_
  refine awp_block ?_
  obtain ⟨h5, H⟩ := gif H
  refine awp_forL (fun (k3 : Nat) (s : Unit) => [(0, .dat (vstr s1)), (1, .dat (vstr some2)), (7, .dat (vint (s1.length : Int))), (8, .dat (vint (k3 : Int)))]) (fun (k3 : Nat) (s : Unit) => []) () H ⟨rfl, rfl, rfl, rfl, trivial⟩ trivial (fun _ _ => rfl) ?_ ?_
  · rintro ⟨⟩ H
    replace H : gateref2_only_E1 = some r := H
    unfold gateref2_only_E1 at H
    refine awp_seq ?_
    refine awp_plain hN rfl ?_
    refine seq_run0 (stp_lss rfl rfl) ?_
    refine awp_seq ?_
    refine awp_cond _ rfl (fun h => (lt_t h).elim) (fun h => ?_)
    refine awp_exit ?_
    refine awp_seq ?_
    refine awp_plain hN rfl ?_
    refine seq_run0 (stp_assign (.dat _) rfl) ?_
    refine awp_ret ?_
    cases H
    exact ⟨trivial, .inl rfl, trivial⟩
  · rintro k3 x6 ⟨⟩ q4 h7 h8 H hq4
    replace H : gateref2_only_L1 some2 k3 x6 = some q4 := H
    unfold gateref2_only_L1 at H
    refine awp_seq ?_
    refine awp_plain hN rfl ?_
    refine seq_run0 (stp_lss rfl rfl) ?_
    refine awp_seq ?_
    refine awp_cond _ rfl (fun h => ?_) (fun h => (lt_f h7 h).elim)
    refine awp_skip ?_
    refine awp_seq ?_
    refine awp_block ?_
    refine awp_seq ?_
    refine awp_plain hN rfl ?_
    refine seq_run0 (stp_move (.dat _) rfl) ?_
    refine seq_run0 (stp_assign (.dat _) rfl) ?_
    refine awp_seq ?_
    refine awp_plain hN rfl ?_
    refine seq_run0 (stp_move (.dat _) rfl) ?_
    refine seq_run0 (stp_move (.dat _) rfl) ?_
    refine seq_run0 (stp_move (.dat _) rfl) ?_
    refine seq_run0 (t_byte tyU9 rfl rfl h8) ?_
    obtain ⟨r9, h10, H⟩ := bnd H
    refine seq_run0 (stp_call (k_strings_IndexByte some2 (x6.toNat : Int) r9 h10) ⟨.inl rfl, .inl rfl, trivial⟩) ?_
    refine seq_run0 (stp_lss rfl rfl) ?_
    refine awp_cond _ rfl (fun h11 => ?_) (fun h11 => ?_)
    · replace H := ift h11 H
      refine awp_seq ?_
      refine awp_plain hN rfl ?_
      refine seq_run0 (stp_assign (.dat _) rfl) ?_
      refine awp_ret ?_
      replace H := retl H hq4
      cases H
      exact ⟨trivial, .inl rfl, trivial⟩
    · replace H := iff_ h11 H
      refine awp_skip ?_
      refine awp_plain hN rfl ?_
      refine seq_run0 (stp_add rfl rfl (by omega)) ?_
      refine seq_run0 (stp_move (.dat _) rfl) ?_
      exact ⟨_, backl H, ⟨rfl, rfl, rfl, rfl, trivial⟩, trivial⟩
theorem k_gateref2_Token (s1 : Bs) (r : (Bool)) (H : m_gateref2_Token s1 = some r) : Fn Tryz.prog 34 [vstr s1] (resOf [vbool r]) := by
  refine ⟨by kernel_rfl, pure_of (us := [vbool r]) Tryz.func34 rfl rfl rfl rfl fun X hN => ?_⟩
  unfold m_gateref2_Token at H
  refine awp_seq ?_
  refine awp_plain hN rfl ?_
  refine seq_run0 (stp_assign (.dat _) rfl) ?_
  refine awp_joinE (ι := Bool) (fun i => [(2, .dat (vbool i))]) (fun i => []) (fun i => gateref2_Token_J1 i = some r) (fun i => rfl) ?_ ?_
  · skip
    refine awp_plain hN rfl ?_
    refine seq_run0 (stp_move (.dat _) rfl) ?_
    refine seq_run0 (stp_len_str tyU9 rfl) ?_
    obtain ⟨r2, h3, H⟩ := bnd H
    refine seq_run0 (stp_call (k_gateref2_in (s1.length : Int) 1 100 r2 h3) ⟨.inl rfl, .inl rfl, .inl rfl, trivial⟩) ?_
    refine seq_run0 (stp_move (.dat _) rfl) ?_
    refine seq_split (j := 3) rfl rfl (fun h4 => ?_) (fun h4 => ?_) rfl
    · have h5 := un1 h4
      replace H := ift h5 H
      refine seq_g0 rfl rfl h4 (stp_move (.dat _) rfl) ?_
      obtain ⟨r6, h7, H⟩ := bnd H
      refine seq_g0 rfl rfl h4 (stp_call (k_gateref2_only s1 [97, 98, 99, 100, 101, 102, 103, 104, 105, 106, 107, 108, 109, 110, 111, 112, 113, 114, 115, 116, 117, 118, 119, 120, 121, 122, 65, 66, 67, 68, 69, 70, 71, 72, 73, 74, 75, 76, 77, 78, 79, 80, 81, 82, 83, 84, 85, 86, 87, 88, 89, 90, 48, 49, 50, 51, 52, 53, 54, 55, 56, 57, 33, 35, 36, 37, 38, 39, 42, 43, 45, 46, 94, 95, 96, 124, 126] r6 h7) ⟨.inl rfl, .inl rfl, trivial⟩) ?_
      refine seq_run0 (stp_pick_t rfl (bTT h5) rfl) ?_
      refine seq_run0 (stp_assign (.dat _) rfl) ?_
      exact ⟨r6, H, ⟨rfl, trivial⟩, trivial⟩
    · have h8 := un2 h4
      replace H := iff_ h8 H
      refine seq_skip rfl rfl h4 ?_
      refine seq_skip rfl rfl h4 ?_
      refine seq_run0 (stp_pick_f rfl (bFF h8) rfl) ?_
      refine seq_run0 (stp_assign (.dat _) rfl) ?_
      exact ⟨false, H, ⟨rfl, trivial⟩, trivial⟩
  · rintro v9 H
    replace H : gateref2_Token_J1 v9 = some r := H
    unfold gateref2_Token_J1 at H
    refine awp_ret ?_
    cases H
    exact ⟨trivial, .inl rfl, trivial⟩
theorem k_gateref2_Number (s1 : Bs) (most2 : Int) (r : (Int × Bool)) (H : m_gateref2_Number s1 most2 = some r) : Fn Tryz.prog 71 [vstr s1, vint most2] (resOf [vint r.1, vbool r.2]) := by
  refine ⟨by kernel_rfl, pure_of (us := [vint r.1, vbool r.2]) Tryz.func71 rfl rfl rfl rfl fun X hN => ?_⟩
  unfold m_gateref2_Number at H
  refine awp_seq ?_
  refine awp_plain hN rfl ?_
  refine seq_run0 (stp_assign (.dat _) rfl) ?_
  refine seq_run0 (stp_assign (.dat _) rfl) ?_
  refine awp_seq ?_
  refine awp_plain hN rfl ?_
  refine seq_run0 (stp_move (.dat _) rfl) ?_
  obtain ⟨r3, h4, H⟩ := bnd H
  refine seq_run0 (stp_call (k_strings_TrimPrefix s1 [45] r3 h4) ⟨.inl rfl, .inl rfl, trivial⟩) ?_
  refine seq_run0 (stp_assign (.dat _) rfl) ?_
  refine awp_seq ?_
  refine awp_joinE (ι := Bool) (fun i => [(0, .dat (vstr s1)), (23, .dat (vbool i))]) (fun i => []) (fun i => gateref2_Number_J1 s1 i = some r) (fun i => rfl) ?_ ?_
  · skip
    refine awp_plain hN rfl ?_
    refine seq_run0 (stp_move (.dat _) rfl) ?_
    refine seq_run0 (stp_seql rfl rfl) ?_
    refine seq_run0 (stp_move (.dat _) rfl) ?_
    refine seq_split (j := 2) rfl rfl (fun h5 => ?_) (fun h5 => ?_) rfl
    · have h6 := un3 h5
      replace H := iff_ h6 H
      refine seq_g0 rfl rfl h5 (stp_move (.dat _) rfl) ?_
      refine seq_g0 rfl rfl h5 (stp_len_str tyU9 rfl) ?_
      refine seq_g0 rfl rfl h5 (stp_move (.dat _) rfl) ?_
      refine seq_g0 rfl rfl h5 (stp_gtr rfl rfl) ?_
      refine seq_run0 (stp_pick_f rfl (bFF h6) rfl) ?_
      refine seq_run0 (stp_move (.dat _) rfl) ?_
      refine seq_split (j := 8) rfl rfl (fun h7 => ?_) (fun h7 => ?_) rfl
      · have h8 := un3 h7
        replace H := iff_ h8 H
        refine seq_g0 rfl rfl h7 (stp_move (.dat _) rfl) ?_
        obtain ⟨r9, h10, H⟩ := bnd H
        refine seq_g0 rfl rfl h7 (stp_call (k_gateref2_only r3 [48, 49, 50, 51, 52, 53, 54, 55, 56, 57] r9 h10) ⟨.inl rfl, .inl rfl, trivial⟩) ?_
        refine seq_g0 rfl rfl h7 (stp_not rfl) ?_
        refine seq_run0 (stp_pick_f rfl (bFF h8) rfl) ?_
        exact ⟨!r9, H, ⟨rfl, rfl, trivial⟩, trivial⟩
      · have h11 := un4 h7
        replace H := ift h11 H
        refine seq_skip rfl rfl h7 ?_
        refine seq_skip rfl rfl h7 ?_
        refine seq_skip rfl rfl h7 ?_
        refine seq_run0 (stp_pick_t rfl (bTT h11) rfl) ?_
        exact ⟨true, H, ⟨rfl, rfl, trivial⟩, trivial⟩
    · have h12 := un4 h5
      replace H := ift h12 H
      refine seq_skip rfl rfl h5 ?_
      refine seq_skip rfl rfl h5 ?_
      refine seq_skip rfl rfl h5 ?_
      refine seq_skip rfl rfl h5 ?_
      refine seq_run0 (stp_pick_t rfl (bTT h12) rfl) ?_
      refine seq_run0 (stp_move (.dat _) rfl) ?_
      refine seq_skip rfl rfl rfl ?_
      refine seq_skip rfl rfl rfl ?_
      refine seq_skip rfl rfl rfl ?_
      refine seq_run0 (stp_pick_t rfl rfl rfl) ?_
      exact ⟨true, H, ⟨rfl, rfl, trivial⟩, trivial⟩
  · rintro v13 H
    replace H : gateref2_Number_J1 s1 v13 = some r := H
    unfold gateref2_Number_J1 at H
    refine awp_cond _ rfl (fun h14 => ?_) (fun h14 => ?_)
    · replace H := ift h14 H
      refine awp_seq ?_
      refine awp_plain hN rfl ?_
      refine seq_run0 (stp_assign (.dat _) rfl) ?_
      refine seq_run0 (stp_assign (.dat _) rfl) ?_
      refine awp_ret ?_
      cases H
      exact ⟨trivial, .inl rfl, .inl rfl, trivial⟩
    · replace H := iff_ h14 H
      refine awp_skip ?_
      refine awp_seq ?_
      refine awp_plain hN rfl ?_
      refine seq_run0 (stp_move (.dat _) rfl) ?_
      obtain ⟨r15, h16, H⟩ := bnd H
      refine seq_run0 (stp_call (k_strconv_Atoi s1 r15 h16) ⟨.inl rfl, trivial⟩) ?_
      refine seq_run0 (stp_move (.dat _) rfl) ?_
      refine seq_run0 (stp_ext rfl rfl) ?_
      refine seq_run0 (stp_ext rfl rfl) ?_
      refine seq_run0 (stp_assign (.dat _) rfl) ?_
      refine seq_run0 (stp_assign (.dat _) rfl) ?_
      refine awp_joinE (ι := Bool) (fun i => [(4, .dat (vint r15.1)), (5, .dat (vbool i))]) (fun i => []) (fun i => gateref2_Number_J2 r15 i = some r) (fun i => rfl) ?_ ?_
      · skip
        refine awp_plain hN rfl ?_
        refine seq_run0 (stp_move (.dat _) rfl) ?_
        refine seq_run0 (stp_move (.dat _) rfl) ?_
        refine seq_run0 (stp_erreql (n := r15.2) (show Tryz.prog.underlying 55 = some (.interface (Tryz.prog.methodsAt 55)) from by kernel_rfl) rfl) ?_
        refine seq_run0 (stp_move (.dat _) rfl) ?_
        refine seq_split (j := 3) rfl rfl (fun h17 => ?_) (fun h17 => ?_) rfl
        · have h18 := un1 h17
          replace H := ift h18 H
          refine seq_g0 rfl rfl h17 (stp_move (.dat _) rfl) ?_
          obtain ⟨r19, h20, H⟩ := bnd H
          refine seq_g0 rfl rfl h17 (stp_call (k_strconv_Itoa r15.1 r19 h20) ⟨.inl rfl, trivial⟩) ?_
          refine seq_g0 rfl rfl h17 (stp_move (.dat _) rfl) ?_
          refine seq_g0 rfl rfl h17 (stp_seql rfl rfl) ?_
          refine seq_run0 (stp_pick_t rfl (bTT h18) rfl) ?_
          refine seq_run0 (stp_assign (.dat _) rfl) ?_
          refine seq_run0 (stp_assign (.dat _) rfl) ?_
          exact ⟨decide (r19 = s1), H, ⟨rfl, rfl, trivial⟩, trivial⟩
        · have h21 := un2 h17
          replace H := iff_ h21 H
          refine seq_skip rfl rfl h17 ?_
          refine seq_skip rfl rfl h17 ?_
          refine seq_skip rfl rfl h17 ?_
          refine seq_skip rfl rfl h17 ?_
          refine seq_run0 (stp_pick_f rfl (bFF h21) rfl) ?_
          refine seq_run0 (stp_assign (.dat _) rfl) ?_
          refine seq_run0 (stp_assign (.dat _) rfl) ?_
          exact ⟨false, H, ⟨rfl, rfl, trivial⟩, trivial⟩
      · rintro v22 H
        replace H : gateref2_Number_J2 r15 v22 = some r := H
        unfold gateref2_Number_J2 at H
        refine awp_ret ?_
        cases H
        exact ⟨trivial, .inl rfl, .inl rfl, trivial⟩
theorem k_strings_ToLower (s : Bs) (r : Bs) (H : m_strings_ToLower s = some r) : Fn Tryz.prog 74 [vstr s] (resOf [vstr r]) := by
  unfold m_strings_ToLower at H
  obtain ⟨⟨h1, h2⟩, h3⟩ := gif H
  cases h3
  refine fn_of_callsG (by kernel_rfl) fun M w vs hM h => ?_
  have hv := Ts_vals (us := [.string ⟨s.toArray⟩]) h
  subst hv
  refine (Tryz.strings_ToLower_ascii ⟨s.toArray⟩ w (by simp [ByteArray.size]; omega) (fun j b hb => ascB_at h2 j b (by simpa using hb))).mono ?_
  rintro e w' ⟨rfl, hb⟩
  exact ⟨_, rfl, rfl, Kp.of_below hb⟩

end Go.Proofs.YtodipncpfipjnaaGreatDoor
