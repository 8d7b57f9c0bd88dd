/- Walks along the models. Printed by a program. -/
import Derived.Test.YtgjfcdcpiamikaaGreatDoorYzw2
namespace Go.Proofs.YtgjfcdcpiamikaaGreatDoor
open Go.RowKit
set_option linter.unusedVariables false
set_option maxRecDepth 20000
set_option maxHeartbeats 2000000
theorem k_message_isHost (s1 : Bs) (r : (Bool)) (H : m_message_isHost s1 = some r) : Fn Tryz.prog 71 [vstr s1] (resOf [vbool r]) := by
 refine ⟨by kernel_rfl, pure_of (us := [vbool r]) Tryz.func71 rfl rfl rfl rfl fun X hN => ?_⟩
 unfold m_message_isHost at H
 refine awp_seq ?_
 refine awp_plain hN rfl ?_
 refine qe rfl ?_
 refine awp_seq ?_
 refine awp_plain hN rfl ?_
 refine qd rfl ?_
 obtain ⟨r2, h3, H⟩ := bnd H
 refine seq_run0 (stp_call (k_strings_Cut s1 [58] r2 h3) ⟨.inl rfl, .inl rfl, trivial⟩) ?_
 refine qd rfl ?_
 refine seq_run0 (stp_ext rfl rfl) ?_
 refine seq_run0 (stp_ext rfl rfl) ?_
 refine seq_run0 (stp_ext rfl rfl) ?_
 refine qe rfl ?_
 refine qe rfl ?_
 refine qe rfl ?_
 refine awp_seq ?_
 refine awp_seq ?_
 refine awp_plain hN rfl ?_
 refine qd rfl ?_
 obtain ⟨r4, h5, H⟩ := bnd H
 refine seq_run0 (stp_call (k_strings_Split r2.1 [46] r4 h5) ⟨.inl rfl, .inl rfl, trivial⟩) ?_
 refine seq_run0 (t_len tyU31 rfl) ?_
 refine qd rfl ?_
 refine awp_block ?_
 obtain ⟨h8, H⟩ := gif H
 refine awp_forL (fun (k6 : Nat) (s : Unit) => [(0, .dat (vstr s1)), (4, .dat (vstr r2.2.1)), (5, .dat (vbool r2.2.2)), (17, .dat (vlst (List.map C_string r4))), (18, .dat (vint (r4.length : Int))), (19, .dat (vint (k6 : Int)))]) (fun (k6 : Nat) (s : Unit) => []) () H ⟨rfl, rfl, rfl, rfl, rfl, rfl, trivial⟩ trivial (fun _ _ => rfl) ?_ ?_
 ·rintro ⟨⟩ H
  replace H : message_isHost_E1 s1 r2 = some r := H
  unfold message_isHost_E1 at H
  refine awp_seq ?_
  refine awp_plain hN rfl ?_
  refine seq_run0 (stp_lss rfl rfl) ?_
  refine awp_seq ?_
  refine awp_cond _ rfl (fun h => (lt_t h).elim) (fun h => ?_)
  refine awp_exit ?_
  refine awp_seq ?_
  refine awp_plain hN rfl ?_
  refine qd rfl ?_
  obtain ⟨r10, h11, H⟩ := bnd H
  refine seq_run0 (stp_call (k_kit_Small r2.2.1 r10 h11) ⟨.inl rfl, trivial⟩) ?_
  refine qd rfl ?_
  refine seq_run0 (stp_ext rfl rfl) ?_
  refine seq_run0 (stp_ext rfl rfl) ?_
  refine qe rfl ?_
  refine qe rfl ?_
  refine awp_joinE (ι := Bool) (fun i => [(2, .dat (vbool i))]) (fun i => []) (fun i => message_isHost_J2 i = some r) (fun i => rfl) ?_ ?_
  ·skip
   refine awp_plain hN rfl ?_
   refine qd rfl ?_
   refine seq_run0 (stp_len_str tyU9 rfl) ?_
   refine seq_run0 (stp_leq rfl rfl) ?_
   refine qd rfl ?_
   refine seq_split (j := 3) rfl rfl (fun h12 => ?_) (fun h12 => ?_) rfl
   ·have h13 := un1 h12
    replace H := ift h13 H
    refine seq_g0 rfl rfl h12 (stp_move (.dat _) rfl) ?_
    refine seq_g0 rfl rfl h12 (stp_not rfl) ?_
    refine seq_g0 rfl rfl h12 (stp_move (.dat _) rfl) ?_
    refine seq_split (j := 6) rfl rfl (fun h14 => ?_) (fun h14 => ?_) rfl
    ·have h15 := un3 h14
     replace H := iff_ h15 H
     refine seq_g0 rfl rfl h14 (stp_move (.dat _) rfl) ?_
     refine seq_g0 rfl rfl h14 (stp_move (.dat _) rfl) ?_
     refine seq_split (j := 8) rfl rfl (fun h16 => ?_) (fun h16 => ?_) rfl
     ·have h17 := un1 h16
      replace H := ift h17 H
      refine seq_g0 rfl rfl h16 (stp_move (.dat _) rfl) ?_
      obtain ⟨r18, h19, H⟩ := bnd H
      refine seq_g0 rfl rfl h16 (stp_call (k_kit_Outside r10.1 1 65535 r18 h19) ⟨.inl rfl, .inl rfl, .inl rfl, trivial⟩) ?_
      refine seq_g0 rfl rfl h16 (stp_not rfl) ?_
      refine seq_g0 rfl rfl h14 (stp_pick_t rfl (bTT h17) rfl) ?_
      refine seq_g0 rfl rfl h12 (stp_pick_f rfl (bFF h15) rfl) ?_
      refine seq_run0 (stp_pick_t rfl (bTT h13) rfl) ?_
      refine qe rfl ?_
      exact ⟨!r18, H, ⟨rfl, trivial⟩, trivial⟩
     ·have h20 := un2 h16
      replace H := iff_ h20 H
      refine seq_skip rfl rfl h16 ?_
      refine seq_skip rfl rfl h16 ?_
      refine seq_skip rfl rfl h16 ?_
      refine seq_g0 rfl rfl h14 (stp_pick_f rfl (bFF h20) rfl) ?_
      refine seq_g0 rfl rfl h12 (stp_pick_f rfl (bFF h15) rfl) ?_
      refine seq_run0 (stp_pick_t rfl (bTT h13) rfl) ?_
      refine qe rfl ?_
      exact ⟨false, H, ⟨rfl, trivial⟩, trivial⟩
    ·have h21 := un4 h14
     replace H := ift h21 H
     refine seq_skip rfl rfl h14 ?_
     refine seq_skip rfl rfl h14 ?_
     refine seq_skipU rfl rfl ?_
     refine seq_skipU rfl rfl ?_
     refine seq_skipU rfl rfl ?_
     refine seq_skip rfl rfl h14 ?_
     refine seq_g0 rfl rfl h12 (stp_pick_t rfl (bTT h21) rfl) ?_
     refine seq_run0 (stp_pick_t rfl (bTT h13) rfl) ?_
     refine qe rfl ?_
     exact ⟨true, H, ⟨rfl, trivial⟩, trivial⟩
   ·have h22 := un2 h12
    replace H := iff_ h22 H
    refine seq_skip rfl rfl h12 ?_
    refine seq_skip rfl rfl h12 ?_
    refine seq_skip rfl rfl h12 ?_
    refine seq_skipU rfl rfl ?_
    refine seq_skipU rfl rfl ?_
    refine seq_skipU rfl rfl ?_
    refine seq_skipU rfl rfl ?_
    refine seq_skipU rfl rfl ?_
    refine seq_skipU rfl rfl ?_
    refine seq_skip rfl rfl h12 ?_
    refine seq_run0 (stp_pick_f rfl (bFF h22) rfl) ?_
    refine qe rfl ?_
    exact ⟨false, H, ⟨rfl, trivial⟩, trivial⟩
  ·rintro v23 H
   replace H : message_isHost_J2 v23 = some r := H
   unfold message_isHost_J2 at H
   refine awp_ret ?_
   cases H
   exact ⟨trivial, .inl rfl, trivial⟩
 ·rintro k6 x9 ⟨⟩ q7 h24 h25 H hq7
  replace H : message_isHost_L1 k6 x9 = some q7 := H
  unfold message_isHost_L1 at H
  refine awp_seq ?_
  refine awp_plain hN rfl ?_
  refine seq_run0 (stp_lss rfl rfl) ?_
  refine awp_seq ?_
  refine awp_cond _ rfl (fun h => ?_) (fun h => (lt_f h24 h).elim)
  refine awp_skip ?_
  refine awp_seq ?_
  refine awp_block ?_
  refine awp_seq ?_
  refine awp_plain hN rfl ?_
  refine seq_run0 (t_idx tyE31 (fun _ => rfl) rfl rfl h25) ?_
  refine seq_run0 (stp_loadE1 tyS9 rfl (map_at h25) rfl) ?_
  refine qe rfl ?_
  refine awp_seq ?_
  refine awp_plain hN rfl ?_
  refine qd rfl ?_
  obtain ⟨r26, h27, H⟩ := bnd H
  refine seq_run0 (stp_call (k_message_isLabel x9 r26 h27) ⟨.inl rfl, trivial⟩) ?_
  refine seq_run0 (stp_not rfl) ?_
  refine awp_cond _ rfl (fun h28 => ?_) (fun h28 => ?_)
  ·replace H := ift h28 H
   refine awp_seq ?_
   refine awp_plain hN rfl ?_
   refine qe rfl ?_
   refine awp_ret ?_
   replace H := retl H hq7
   cases H
   exact ⟨trivial, .inl rfl, trivial⟩
  ·replace H := iff_ h28 H
   refine awp_skip ?_
   refine awp_plain hN rfl ?_
   refine seq_run0 (stp_add rfl rfl (by omega)) ?_
   refine qd rfl ?_
   exact ⟨_, backl H, ⟨rfl, rfl, rfl, rfl, rfl, rfl, trivial⟩, trivial⟩
theorem k_strings_HasPrefix (s p : Bs) (r : Bool) (H : m_strings_HasPrefix s p = some r) : Fn Tryz.prog 65 [vstr s, vstr p] (resOf [vbool r]) := by
 cases H
 refine fn_of_calls (by kernel_rfl) fun M w vs h => ?_
 have h1 := Ts_vals (us := [.string ⟨s.toArray⟩, .string ⟨p.toArray⟩]) h
 subst h1
 refine (Tryz.strings_HasPrefix ⟨s.toArray⟩ ⟨p.toArray⟩ w).mono ?_
 rintro e w' ⟨rfl, rfl⟩
 exact ⟨_, rfl, rfl, Kp.refl _ _⟩
theorem k_message_isRange (s1 : Bs) (low2 : Int) (high3 : Int) (r : (Bool)) (H : m_message_isRange s1 low2 high3 = some r) : Fn Tryz.prog 96 [vstr s1, vval (.int .u8 low2), vval (.int .u8 high3)] (resOf [vbool r]) := by
 refine ⟨by kernel_rfl, pure_of (us := [vbool r]) Tryz.func96 rfl rfl rfl rfl fun X hN => ?_⟩
 unfold m_message_isRange at H
 refine awp_seq ?_
 refine awp_plain hN rfl ?_
 refine qe rfl ?_
 refine awp_seq ?_
 refine awp_seq ?_
 refine awp_plain hN rfl ?_
 refine qd rfl ?_
 refine seq_run0 (stp_len_str tyU9 rfl) ?_
 refine qd rfl ?_
 refine awp_block ?_
 obtain ⟨h6, H⟩ := gif H
 refine awp_forL (fun (k4 : Nat) (s : Unit) => [(0, .dat (vstr s1)), (1, .dat (vval (.int .u8 low2))), (2, .dat (vval (.int .u8 high3))), (9, .dat (vint (s1.length : Int))), (10, .dat (vint (k4 : Int)))]) (fun (k4 : Nat) (s : Unit) => []) () H ⟨rfl, rfl, rfl, rfl, rfl, trivial⟩ trivial (fun _ _ => rfl) ?_ ?_
 ·rintro ⟨⟩ H
  replace H : message_isRange_E1 = some r := H
  unfold message_isRange_E1 at H
  refine awp_seq ?_
  refine awp_plain hN rfl ?_
  refine seq_run0 (stp_lss rfl rfl) ?_
  refine awp_seq ?_
  refine awp_cond _ rfl (fun h => (lt_t h).elim) (fun h => ?_)
  refine awp_exit ?_
  refine awp_seq ?_
  refine awp_plain hN rfl ?_
  refine qe rfl ?_
  refine awp_ret ?_
  cases H
  exact ⟨trivial, .inl rfl, trivial⟩
 ·rintro k4 x7 ⟨⟩ q5 h8 h9 H hq5
  replace H : message_isRange_L1 low2 high3 k4 x7 = some q5 := H
  unfold message_isRange_L1 at H
  refine awp_seq ?_
  refine awp_plain hN rfl ?_
  refine seq_run0 (stp_lss rfl rfl) ?_
  refine awp_seq ?_
  refine awp_cond _ rfl (fun h => ?_) (fun h => (lt_f h8 h).elim)
  refine awp_skip ?_
  refine awp_seq ?_
  refine awp_block ?_
  refine awp_seq ?_
  refine awp_plain hN rfl ?_
  refine qd rfl ?_
  refine qe rfl ?_
  refine awp_joinE (ι := Bool) (fun i => [(0, .dat (vstr s1)), (1, .dat (vval (.int .u8 low2))), (2, .dat (vval (.int .u8 high3))), (9, .dat (vint (s1.length : Int))), (10, .dat (vint (k4 : Int))), (24, .dat (vbool i))]) (fun i => []) (fun i => message_isRange_J2 i = some q5) (fun i => rfl) ?_ ?_
  ·skip
   refine awp_plain hN rfl ?_
   refine qd rfl ?_
   refine qd rfl ?_
   refine seq_run0 (t_byte tyU9 rfl rfl h9) ?_
   refine qd rfl ?_
   refine seq_run0 (stp_lss rfl rfl) ?_
   refine qd rfl ?_
   refine seq_split (j := 5) rfl rfl (fun h10 => ?_) (fun h10 => ?_) rfl
   ·have h11 := un3 h10
    replace H := iff_ h11 H
    refine seq_g0 rfl rfl h10 (stp_move (.dat _) rfl) ?_
    refine seq_g0 rfl rfl h10 (stp_move (.dat _) rfl) ?_
    refine seq_g0 rfl rfl h10 (t_byte tyU9 rfl rfl h9) ?_
    refine seq_g0 rfl rfl h10 (stp_move (.dat _) rfl) ?_
    refine seq_g0 rfl rfl h10 (stp_gtr rfl rfl) ?_
    refine seq_run0 (stp_pick_f rfl (bFF h11) rfl) ?_
    exact ⟨decide (high3 < (x7.toNat : Int)), H, ⟨rfl, rfl, rfl, rfl, rfl, rfl, trivial⟩, trivial⟩
   ·have h12 := un4 h10
    replace H := ift h12 H
    refine seq_skip rfl rfl h10 ?_
    refine seq_skip rfl rfl h10 ?_
    refine seq_skip rfl rfl h10 ?_
    refine seq_skip rfl rfl h10 ?_
    refine seq_skip rfl rfl h10 ?_
    refine seq_run0 (stp_pick_t rfl (bTT h12) rfl) ?_
    exact ⟨true, H, ⟨rfl, rfl, rfl, rfl, rfl, rfl, trivial⟩, trivial⟩
  ·rintro v13 H
   replace H : message_isRange_J2 v13 = some q5 := H
   unfold message_isRange_J2 at H
   refine awp_cond _ rfl (fun h14 => ?_) (fun h14 => ?_)
   ·replace H := ift h14 H
    refine awp_seq ?_
    refine awp_plain hN rfl ?_
    refine qe rfl ?_
    refine awp_ret ?_
    replace H := retl H hq5
    cases H
    exact ⟨trivial, .inl rfl, trivial⟩
   ·replace H := iff_ h14 H
    refine awp_skip ?_
    refine awp_plain hN rfl ?_
    refine seq_run0 (stp_add rfl rfl (by omega)) ?_
    refine qd rfl ?_
    exact ⟨_, backl H, ⟨rfl, rfl, rfl, rfl, rfl, trivial⟩, trivial⟩
theorem k_strings_ContainsAny (s p : Bs) (r : Bool) (H : m_strings_ContainsAny s p = some r) : Fn Tryz.prog 109 [vstr s, vstr p] (resOf [vbool r]) := by
 unfold m_strings_ContainsAny at H
 obtain ⟨⟨⟨h1, h2⟩, h3, h4⟩, h5⟩ := gif H
 cases h5
 refine fn_of_callsG (by kernel_rfl) fun M w vs hM h => ?_
 have hv := Ts_vals (us := [.string ⟨s.toArray⟩, .string ⟨p.toArray⟩]) h
 subst hv
 refine (Tryz.strings_ContainsAny_laid ⟨s.toArray⟩ ⟨p.toArray⟩ w (by simp [ByteArray.size]; omega) (by simp [ByteArray.size]; omega) (fun j b hb => ascB_at h3 j b (by simpa using hb)) (fun j b hb => ascB_at h4 j b (by simpa using hb))).mono ?_
 rintro e w' ⟨rfl, hb⟩
 exact ⟨_, rfl, rfl, Kp.of_below hb⟩

theorem k_message_PathFault (s1 : Bs) (r : (Int)) (H : m_message_PathFault s1 = some r) : Fn Tryz.prog 72 [vstr s1] (resOf [vint r]) := by
 refine ⟨by kernel_rfl, pure_of (us := [vint r]) Tryz.func72 rfl rfl rfl rfl fun X hN => ?_⟩
 unfold m_message_PathFault at H
 refine awp_seq ?_
 refine awp_plain hN rfl ?_
 refine qe rfl ?_
 refine awp_seq ?_
 refine awp_joinE (ι := Bool) (fun i => [(19, .dat (vbool i))]) (fun i => []) (fun i => message_PathFault_J1 i = some r) (fun i => rfl) ?_ ?_
 ·skip
  refine awp_plain hN rfl ?_
  refine qd rfl ?_
  refine seq_run0 (stp_len_str tyU9 rfl) ?_
  refine seq_run0 (stp_gtr rfl rfl) ?_
  refine qd rfl ?_
  refine seq_split (j := 3) rfl rfl (fun h2 => ?_) (fun h2 => ?_) rfl
  ·have h3 := un3 h2
   replace H := iff_ h3 H
   refine seq_g0 rfl rfl h2 (stp_move (.dat _) rfl) ?_
   obtain ⟨r4, h5, H⟩ := bnd H
   refine seq_g0 rfl rfl h2 (stp_call (k_strings_HasPrefix s1 [47] r4 h5) ⟨.inl rfl, .inl rfl, trivial⟩) ?_
   refine seq_g0 rfl rfl h2 (stp_not rfl) ?_
   refine seq_run0 (stp_pick_f rfl (bFF h3) rfl) ?_
   refine qd rfl ?_
   refine seq_split (j := 8) rfl rfl (fun h6 => ?_) (fun h6 => ?_) rfl
   ·have h7 := un3 h6
    replace H := iff_ h7 H
    refine seq_g0 rfl rfl h6 (stp_move (.dat _) rfl) ?_
    obtain ⟨r8, h9, H⟩ := bnd H
    refine seq_g0 rfl rfl h6 (stp_call (k_message_isRange s1 33 126 r8 h9) ⟨.inl rfl, .inl rfl, .inl rfl, trivial⟩) ?_
    refine seq_g0 rfl rfl h6 (stp_not rfl) ?_
    refine seq_run0 (stp_pick_f rfl (bFF h7) rfl) ?_
    refine qd rfl ?_
    refine seq_split (j := 13) rfl rfl (fun h10 => ?_) (fun h10 => ?_) rfl
    ·have h11 := un3 h10
     replace H := iff_ h11 H
     refine seq_g0 rfl rfl h10 (stp_move (.dat _) rfl) ?_
     obtain ⟨r12, h13, H⟩ := bnd H
     refine seq_g0 rfl rfl h10 (stp_call (k_strings_ContainsAny s1 [63, 35] r12 h13) ⟨.inl rfl, .inl rfl, trivial⟩) ?_
     refine seq_run0 (stp_pick_f rfl (bFF h11) rfl) ?_
     exact ⟨r12, H, ⟨rfl, trivial⟩, trivial⟩
    ·have h14 := un4 h10
     replace H := ift h14 H
     refine seq_skip rfl rfl h10 ?_
     refine seq_skip rfl rfl h10 ?_
     refine seq_run0 (stp_pick_t rfl (bTT h14) rfl) ?_
     exact ⟨true, H, ⟨rfl, trivial⟩, trivial⟩
   ·have h15 := un4 h6
    replace H := ift h15 H
    refine seq_skip rfl rfl h6 ?_
    refine seq_skip rfl rfl h6 ?_
    refine seq_skip rfl rfl h6 ?_
    refine seq_run0 (stp_pick_t rfl (bTT h15) rfl) ?_
    refine qd rfl ?_
    refine seq_skip rfl rfl rfl ?_
    refine seq_skip rfl rfl rfl ?_
    refine seq_run0 (stp_pick_t rfl rfl rfl) ?_
    exact ⟨true, H, ⟨rfl, trivial⟩, trivial⟩
  ·have h16 := un4 h2
   replace H := ift h16 H
   refine seq_skip rfl rfl h2 ?_
   refine seq_skip rfl rfl h2 ?_
   refine seq_skip rfl rfl h2 ?_
   refine seq_run0 (stp_pick_t rfl (bTT h16) rfl) ?_
   refine qd rfl ?_
   refine seq_skip rfl rfl rfl ?_
   refine seq_skip rfl rfl rfl ?_
   refine seq_skip rfl rfl rfl ?_
   refine seq_run0 (stp_pick_t rfl rfl rfl) ?_
   refine qd rfl ?_
   refine seq_skip rfl rfl rfl ?_
   refine seq_skip rfl rfl rfl ?_
   refine seq_run0 (stp_pick_t rfl rfl rfl) ?_
   exact ⟨true, H, ⟨rfl, trivial⟩, trivial⟩
 ·rintro v17 H
  replace H : message_PathFault_J1 v17 = some r := H
  unfold message_PathFault_J1 at H
  refine awp_cond _ rfl (fun h18 => ?_) (fun h18 => ?_)
  ·replace H := ift h18 H
   refine awp_seq ?_
   refine awp_plain hN rfl ?_
   refine qe rfl ?_
   refine awp_ret ?_
   cases H
   exact ⟨trivial, .inl rfl, trivial⟩
  ·replace H := iff_ h18 H
   refine awp_skip ?_
   refine awp_seq ?_
   refine awp_plain hN rfl ?_
   refine qe rfl ?_
   refine awp_ret ?_
   cases H
   exact ⟨trivial, .inl rfl, trivial⟩
theorem k_strings_Contains (s p : Bs) (r : Bool) (H : m_strings_Contains s p = some r) : Fn Tryz.prog 110 [vstr s, vstr p] (resOf [vbool r]) := by
 unfold m_strings_Contains at H
 obtain ⟨h1, h2⟩ := gif H
 cases h2
 refine fn_of_callsG (by kernel_rfl) fun M w vs hM h => ?_
 have hv := Ts_vals (us := [.string ⟨s.toArray⟩, .string ⟨p.toArray⟩]) h
 subst hv
 obtain ⟨m, hm⟩ := maxLen_cell hM
 refine (Tryz.strings_Contains ⟨s.toArray⟩ ⟨p.toArray⟩ m w (by simp [ByteArray.size]; omega) hm).mono ?_
 rintro e w' ⟨rfl, rfl⟩
 exact ⟨_, rfl, rfl, Kp.refl _ _⟩

theorem k_message_queryFault (s1 : Bs) (r : (Int)) (H : m_message_queryFault s1 = some r) : Fn Tryz.prog 73 [vstr s1] (resOf [vint r]) := by
 refine ⟨by kernel_rfl, pure_of (us := [vint r]) Tryz.func73 rfl rfl rfl rfl fun X hN => ?_⟩
 unfold m_message_queryFault at H
 refine awp_seq ?_
 refine awp_plain hN rfl ?_
 refine qe rfl ?_
 refine awp_seq ?_
 refine awp_joinE (ι := Bool) (fun i => [(14, .dat (vbool i))]) (fun i => []) (fun i => message_queryFault_J1 i = some r) (fun i => rfl) ?_ ?_
 ·skip
  refine awp_plain hN rfl ?_
  refine qd rfl ?_
  refine seq_run0 (stp_len_str tyU9 rfl) ?_
  refine seq_run0 (stp_gtr rfl rfl) ?_
  refine qd rfl ?_
  refine seq_split (j := 3) rfl rfl (fun h2 => ?_) (fun h2 => ?_) rfl
  ·have h3 := un3 h2
   replace H := iff_ h3 H
   refine seq_g0 rfl rfl h2 (stp_move (.dat _) rfl) ?_
   obtain ⟨r4, h5, H⟩ := bnd H
   refine seq_g0 rfl rfl h2 (stp_call (k_message_isRange s1 33 126 r4 h5) ⟨.inl rfl, .inl rfl, .inl rfl, trivial⟩) ?_
   refine seq_g0 rfl rfl h2 (stp_not rfl) ?_
   refine seq_run0 (stp_pick_f rfl (bFF h3) rfl) ?_
   refine qd rfl ?_
   refine seq_split (j := 8) rfl rfl (fun h6 => ?_) (fun h6 => ?_) rfl
   ·have h7 := un3 h6
    replace H := iff_ h7 H
    refine seq_g0 rfl rfl h6 (stp_move (.dat _) rfl) ?_
    obtain ⟨r8, h9, H⟩ := bnd H
    refine seq_g0 rfl rfl h6 (stp_call (k_strings_Contains s1 [35] r8 h9) ⟨.inl rfl, .inl rfl, trivial⟩) ?_
    refine seq_run0 (stp_pick_f rfl (bFF h7) rfl) ?_
    exact ⟨r8, H, ⟨rfl, trivial⟩, trivial⟩
   ·have h10 := un4 h6
    replace H := ift h10 H
    refine seq_skip rfl rfl h6 ?_
    refine seq_skip rfl rfl h6 ?_
    refine seq_run0 (stp_pick_t rfl (bTT h10) rfl) ?_
    exact ⟨true, H, ⟨rfl, trivial⟩, trivial⟩
  ·have h11 := un4 h2
   replace H := ift h11 H
   refine seq_skip rfl rfl h2 ?_
   refine seq_skip rfl rfl h2 ?_
   refine seq_skip rfl rfl h2 ?_
   refine seq_run0 (stp_pick_t rfl (bTT h11) rfl) ?_
   refine qd rfl ?_
   refine seq_skip rfl rfl rfl ?_
   refine seq_skip rfl rfl rfl ?_
   refine seq_run0 (stp_pick_t rfl rfl rfl) ?_
   exact ⟨true, H, ⟨rfl, trivial⟩, trivial⟩
 ·rintro v12 H
  replace H : message_queryFault_J1 v12 = some r := H
  unfold message_queryFault_J1 at H
  refine awp_cond _ rfl (fun h13 => ?_) (fun h13 => ?_)
  ·replace H := ift h13 H
   refine awp_seq ?_
   refine awp_plain hN rfl ?_
   refine qe rfl ?_
   refine awp_ret ?_
   cases H
   exact ⟨trivial, .inl rfl, trivial⟩
  ·replace H := iff_ h13 H
   refine awp_skip ?_
   refine awp_seq ?_
   refine awp_plain hN rfl ?_
   refine qe rfl ?_
   refine awp_ret ?_
   cases H
   exact ⟨trivial, .inl rfl, trivial⟩
theorem k_strings_trimRightByte (s1 : Bs) (c2 : Int) (r : (Bs)) (H : m_strings_trimRightByte s1 c2 = some r) : Fn Tryz.prog 116 [vstr s1, vval (.int .u8 c2)] (resOf [vstr r]) := by
 refine ⟨by kernel_rfl, pure_of (us := [vstr r]) Tryz.func116 rfl rfl rfl rfl fun X hN => ?_⟩
 unfold m_strings_trimRightByte at H
 refine awp_seq ?_
 refine awp_plain hN rfl ?_
 refine qe rfl ?_
 refine awp_joinE (ι := Bs) (fun i => [(0, .dat (vstr i))]) (fun i => []) (fun i => strings_trimRightByte_J1 i = some r) (fun i => rfl) ?_ ?_
 ·skip
  refine awp_block ?_
  refine awp_iter (fun (s : Bs) => [(0, .dat (vstr s)), (1, .dat (vval (.int .u8 c2)))]) (fun (s : Bs) => []) s1 H ⟨rfl, rfl, trivial⟩ trivial (fun _ => rfl) ?_
  rintro s3 q4 H hq4
  replace H : strings_trimRightByte_L2 c2 s3 = some q4 := H
  unfold strings_trimRightByte_L2 at H
  refine awp_seq ?_
  refine awp_joinE (ι := Bool) (fun i => [(0, .dat (vstr s3)), (1, .dat (vval (.int .u8 c2))), (16, .dat (vbool i))]) (fun i => []) (fun i => strings_trimRightByte_J3 s3 i = some q4) (fun i => rfl) ?_ ?_
  ·skip
   refine awp_plain hN rfl ?_
   refine qd rfl ?_
   refine seq_run0 (stp_len_str tyU9 rfl) ?_
   refine seq_run0 (stp_gtr rfl rfl) ?_
   refine qd rfl ?_
   refine seq_split (j := 3) rfl rfl (fun h5 => ?_) (fun h5 => ?_) rfl
   ·have h6 := un1 h5
    replace H := ift h6 H
    refine seq_g0 rfl rfl h5 (stp_move (.dat _) rfl) ?_
    refine seq_g0 rfl rfl h5 (stp_move (.dat _) rfl) ?_
    refine seq_g0 rfl rfl h5 (stp_len_str tyU9 rfl) ?_
    refine seq_g0 rfl rfl h5 (stp_wrap _ rfl rfl (.inr (.inl ⟨rfl, rfl⟩))) ?_
    obtain ⟨x7, h8, H⟩ := bnd H
    refine seq_g0 rfl rfl h5 (t_byteI tyU9 rfl rfl h8) ?_
    refine seq_g0 rfl rfl h5 (stp_move (.dat _) rfl) ?_
    refine seq_g0 rfl rfl h5 (stp_eql rfl rfl) ?_
    refine seq_run0 (stp_pick_t rfl (bTT h6) rfl) ?_
    exact ⟨decide ((x7.toNat : Int) = c2), H, ⟨rfl, rfl, rfl, trivial⟩, trivial⟩
   ·have h9 := un2 h5
    replace H := iff_ h9 H
    refine seq_skip rfl rfl h5 ?_
    refine seq_skip rfl rfl h5 ?_
    refine seq_skip rfl rfl h5 ?_
    refine seq_skip rfl rfl h5 ?_
    refine seq_skip rfl rfl h5 ?_
    refine seq_skip rfl rfl h5 ?_
    refine seq_skip rfl rfl h5 ?_
    refine seq_run0 (stp_pick_f rfl (bFF h9) rfl) ?_
    exact ⟨false, H, ⟨rfl, rfl, rfl, trivial⟩, trivial⟩
  ·rintro v10 H
   replace H : strings_trimRightByte_J3 s3 v10 = some q4 := H
   unfold strings_trimRightByte_J3 at H
   refine awp_cond _ rfl (fun h11 => ?_) (fun h11 => ?_)
   ·replace H := ift h11 H
    refine awp_skip ?_
    refine awp_block ?_
    refine awp_plain hN rfl ?_
    refine qd rfl ?_
    refine qd rfl ?_
    refine seq_run0 (stp_len_str tyU9 rfl) ?_
    refine seq_run0 (stp_wrap _ rfl rfl (.inr (.inl ⟨rfl, rfl⟩))) ?_
    obtain ⟨l12, h13, H⟩ := bnd H
    refine seq_run0 (t_subS tyU9 rfl rfl rfl h13) ?_
    refine qe rfl ?_
    exact ⟨_, backl H, ⟨rfl, rfl, trivial⟩, trivial⟩
   ·replace H := iff_ h11 H
    refine awp_exit ?_
    replace H := outl H hq4
    exact ⟨s3, H, ⟨rfl, trivial⟩, trivial⟩
 ·rintro s14 H
  replace H : strings_trimRightByte_J1 s14 = some r := H
  unfold strings_trimRightByte_J1 at H
  refine awp_seq ?_
  refine awp_plain hN rfl ?_
  refine qd rfl ?_
  refine qe rfl ?_
  refine awp_ret ?_
  cases H
  exact ⟨trivial, .inl rfl, trivial⟩
theorem k_strings_trimLeftByte (s1 : Bs) (c2 : Int) (r : (Bs)) (H : m_strings_trimLeftByte s1 c2 = some r) : Fn Tryz.prog 115 [vstr s1, vval (.int .u8 c2)] (resOf [vstr r]) := by
 refine ⟨by kernel_rfl, pure_of (us := [vstr r]) Tryz.func115 rfl rfl rfl rfl fun X hN => ?_⟩
 unfold m_strings_trimLeftByte at H
 refine awp_seq ?_
 refine awp_plain hN rfl ?_
 refine qe rfl ?_
 refine awp_joinE (ι := Bs) (fun i => [(0, .dat (vstr i))]) (fun i => []) (fun i => strings_trimLeftByte_J1 i = some r) (fun i => rfl) ?_ ?_
 ·skip
  refine awp_block ?_
  refine awp_iter (fun (s : Bs) => [(0, .dat (vstr s)), (1, .dat (vval (.int .u8 c2)))]) (fun (s : Bs) => []) s1 H ⟨rfl, rfl, trivial⟩ trivial (fun _ => rfl) ?_
  rintro s3 q4 H hq4
  replace H : strings_trimLeftByte_L2 c2 s3 = some q4 := H
  unfold strings_trimLeftByte_L2 at H
  refine awp_seq ?_
  refine awp_joinE (ι := Bool) (fun i => [(0, .dat (vstr s3)), (1, .dat (vval (.int .u8 c2))), (13, .dat (vbool i))]) (fun i => []) (fun i => strings_trimLeftByte_J3 s3 i = some q4) (fun i => rfl) ?_ ?_
  ·skip
   refine awp_plain hN rfl ?_
   refine qd rfl ?_
   refine seq_run0 (stp_len_str tyU9 rfl) ?_
   refine seq_run0 (stp_gtr rfl rfl) ?_
   refine qd rfl ?_
   refine seq_split (j := 3) rfl rfl (fun h5 => ?_) (fun h5 => ?_) rfl
   ·have h6 := un1 h5
    replace H := ift h6 H
    refine seq_g0 rfl rfl h5 (stp_move (.dat _) rfl) ?_
    obtain ⟨x7, h8, H⟩ := bnd H
    refine seq_g0 rfl rfl h5 (t_byte tyU9 rfl rfl h8) ?_
    refine seq_g0 rfl rfl h5 (stp_move (.dat _) rfl) ?_
    refine seq_g0 rfl rfl h5 (stp_eql rfl rfl) ?_
    refine seq_run0 (stp_pick_t rfl (bTT h6) rfl) ?_
    exact ⟨decide ((x7.toNat : Int) = c2), H, ⟨rfl, rfl, rfl, trivial⟩, trivial⟩
   ·have h9 := un2 h5
    replace H := iff_ h9 H
    refine seq_skip rfl rfl h5 ?_
    refine seq_skip rfl rfl h5 ?_
    refine seq_skip rfl rfl h5 ?_
    refine seq_skip rfl rfl h5 ?_
    refine seq_run0 (stp_pick_f rfl (bFF h9) rfl) ?_
    exact ⟨false, H, ⟨rfl, rfl, rfl, trivial⟩, trivial⟩
  ·rintro v10 H
   replace H : strings_trimLeftByte_J3 s3 v10 = some q4 := H
   unfold strings_trimLeftByte_J3 at H
   refine awp_cond _ rfl (fun h11 => ?_) (fun h11 => ?_)
   ·replace H := ift h11 H
    refine awp_skip ?_
    refine awp_block ?_
    refine awp_plain hN rfl ?_
    refine qd rfl ?_
    obtain ⟨l12, h13, H⟩ := bnd H
    refine seq_run0 (t_subS tyU9 rfl rfl rfl h13) ?_
    refine qe rfl ?_
    exact ⟨_, backl H, ⟨rfl, rfl, trivial⟩, trivial⟩
   ·replace H := iff_ h11 H
    refine awp_exit ?_
    replace H := outl H hq4
    exact ⟨s3, H, ⟨rfl, trivial⟩, trivial⟩
 ·rintro s14 H
  replace H : strings_trimLeftByte_J1 s14 = some r := H
  unfold strings_trimLeftByte_J1 at H
  refine awp_seq ?_
  refine awp_plain hN rfl ?_
  refine qd rfl ?_
  refine qe rfl ?_
  refine awp_ret ?_
  cases H
  exact ⟨trivial, .inl rfl, trivial⟩
theorem k_strings_Trim (s1 : Bs) (cutset2 : Bs) (r : (Bs)) (H : m_strings_Trim s1 cutset2 = some r) : Fn Tryz.prog 77 [vstr s1, vstr cutset2] (resOf [vstr r]) := by
 refine ⟨by kernel_rfl, pure_of (us := [vstr r]) Tryz.func77 rfl rfl rfl rfl fun X hN => ?_⟩
 unfold m_strings_Trim at H
 refine awp_seq ?_
 refine awp_plain hN rfl ?_
 refine qe rfl ?_
 refine awp_seq ?_
 refine awp_seq ?_
 refine awp_plain hN rfl ?_
 refine qd rfl ?_
 refine seq_run0 (stp_seql rfl rfl) ?_
 refine qd rfl ?_
 refine seq_aF rfl rfl (fun hc => stp_move (.dat _) rfl) ?_
 refine seq_aF rfl rfl (fun hc => stp_seql (cnd (c := (!(decide (s1 = [])))) hc) rfl) ?_
 refine seq_run0 (stp_pick_or rfl rfl (fun hb => (cnd (c := (!(decide (s1 = [])))) (notI hb)))) ?_
 refine awp_cond _ rfl (fun h3 => ?_) (fun h3 => ?_)
 ·replace H := ift h3 H
  refine awp_seq ?_
  refine awp_plain hN rfl ?_
  refine qd rfl ?_
  refine qe rfl ?_
  refine awp_ret ?_
  cases H
  exact ⟨trivial, .inl rfl, trivial⟩
 ·replace H := iff_ h3 H
  refine awp_skip ?_
  refine awp_seq ?_
  refine awp_joinE (ι := Bool) (fun i => [(0, .dat (vstr s1)), (1, .dat (vstr cutset2)), (21, .dat (vbool i))]) (fun i => []) (fun i => strings_Trim_J1 s1 cutset2 i = some r) (fun i => rfl) ?_ ?_
  ·skip
   refine awp_plain hN rfl ?_
   refine qd rfl ?_
   refine seq_run0 (stp_len_str tyU9 rfl) ?_
   refine seq_run0 (stp_eql rfl rfl) ?_
   refine qd rfl ?_
   refine seq_split (j := 3) rfl rfl (fun h4 => ?_) (fun h4 => ?_) rfl
   ·have h5 := un1 h4
    replace H := ift h5 H
    refine seq_g0 rfl rfl h4 (stp_move (.dat _) rfl) ?_
    obtain ⟨x6, h7, H⟩ := bnd H
    refine seq_g0 rfl rfl h4 (t_byte tyU9 rfl rfl h7) ?_
    refine seq_g0 rfl rfl h4 (stp_lss rfl rfl) ?_
    refine seq_run0 (stp_pick_t rfl (bTT h5) rfl) ?_
    exact ⟨decide ((x6.toNat : Int) < 128), H, ⟨rfl, rfl, rfl, trivial⟩, trivial⟩
   ·have h8 := un2 h4
    replace H := iff_ h8 H
    refine seq_skip rfl rfl h4 ?_
    refine seq_skip rfl rfl h4 ?_
    refine seq_skip rfl rfl h4 ?_
    refine seq_run0 (stp_pick_f rfl (bFF h8) rfl) ?_
    exact ⟨false, H, ⟨rfl, rfl, rfl, trivial⟩, trivial⟩
  ·rintro v9 H
   replace H : strings_Trim_J1 s1 cutset2 v9 = some r := H
   unfold strings_Trim_J1 at H
   refine awp_cond _ rfl (fun h10 => ?_) (fun h10 => ?_)
   ·replace H := ift h10 H
    refine awp_seq ?_
    refine awp_draw mixed hN rfl rfl ?_
    refine qd rfl ?_
    refine qd rfl ?_
    obtain ⟨x11, h12, H⟩ := bnd H
    refine seq_run0 (t_byte tyU9 rfl rfl h12) ?_
    obtain ⟨r13, h14, H⟩ := bnd H
    refine seq_run0 (stp_call (k_strings_trimRightByte s1 (x11.toNat : Int) r13 h14) ⟨.inl rfl, .inl rfl, trivial⟩) ?_
    refine qd rfl ?_
    refine seq_run0 (t_byte tyU9 rfl rfl h12) ?_
    obtain ⟨r15, h16, H⟩ := bnd H
    refine seq_run0 (stp_call (k_strings_trimLeftByte r13 (x11.toNat : Int) r15 h16) ⟨.inl rfl, .inl rfl, trivial⟩) ?_
    refine qe rfl ?_
    refine ⟨rfl, ?_⟩
    refine awp_ret ?_
    cases H
    exact ⟨trivial, .inl rfl, trivial⟩
   ·replace H := iff_ h10 H
    cases H
theorem k_message_IsField (s1 : Bs) (r : (Bool)) (H : m_message_IsField s1 = some r) : Fn Tryz.prog 54 [vstr s1] (resOf [vbool r]) := by
 refine ⟨by kernel_rfl, pure_of (us := [vbool r]) Tryz.func54 rfl rfl rfl rfl fun X hN => ?_⟩
 unfold m_message_IsField at H
 refine awp_seq ?_
 refine awp_plain hN rfl ?_
 refine qe rfl ?_
 refine awp_joinE (ι := Bool) (fun i => [(2, .dat (vbool i))]) (fun i => []) (fun i => message_IsField_J1 i = some r) (fun i => rfl) ?_ ?_
 ·skip
  refine awp_plain hN rfl ?_
  refine qd rfl ?_
  refine seq_run0 (stp_len_str tyU9 rfl) ?_
  refine seq_run0 (stp_leq rfl rfl) ?_
  refine qd rfl ?_
  refine seq_split (j := 3) rfl rfl (fun h2 => ?_) (fun h2 => ?_) rfl
  ·have h3 := un1 h2
   replace H := ift h3 H
   refine seq_g0 rfl rfl h2 (stp_move (.dat _) rfl) ?_
   obtain ⟨r4, h5, H⟩ := bnd H
   refine seq_g0 rfl rfl h2 (stp_call (k_message_isRange s1 32 126 r4 h5) ⟨.inl rfl, .inl rfl, .inl rfl, trivial⟩) ?_
   refine seq_run0 (stp_pick_t rfl (bTT h3) rfl) ?_
   refine qd rfl ?_
   refine seq_split (j := 7) rfl rfl (fun h6 => ?_) (fun h6 => ?_) rfl
   ·have h7 := un1 h6
    replace H := ift h7 H
    refine seq_g0 rfl rfl h6 (stp_move (.dat _) rfl) ?_
    obtain ⟨r8, h9, H⟩ := bnd H
    refine seq_g0 rfl rfl h6 (stp_call (k_strings_Trim s1 [32] r8 h9) ⟨.inl rfl, .inl rfl, trivial⟩) ?_
    refine seq_g0 rfl rfl h6 (stp_move (.dat _) rfl) ?_
    refine seq_g0 rfl rfl h6 (stp_seql rfl rfl) ?_
    refine seq_run0 (stp_pick_t rfl (bTT h7) rfl) ?_
    refine qe rfl ?_
    exact ⟨decide (r8 = s1), H, ⟨rfl, trivial⟩, trivial⟩
   ·have h10 := un2 h6
    replace H := iff_ h10 H
    refine seq_skip rfl rfl h6 ?_
    refine seq_skip rfl rfl h6 ?_
    refine seq_skip rfl rfl h6 ?_
    refine seq_skip rfl rfl h6 ?_
    refine seq_run0 (stp_pick_f rfl (bFF h10) rfl) ?_
    refine qe rfl ?_
    exact ⟨false, H, ⟨rfl, trivial⟩, trivial⟩
  ·have h11 := un2 h2
   replace H := iff_ h11 H
   refine seq_skip rfl rfl h2 ?_
   refine seq_skip rfl rfl h2 ?_
   refine seq_run0 (stp_pick_f rfl (bFF h11) rfl) ?_
   refine qd rfl ?_
   refine seq_skip rfl rfl rfl ?_
   refine seq_skip rfl rfl rfl ?_
   refine seq_skip rfl rfl rfl ?_
   refine seq_skip rfl rfl rfl ?_
   refine seq_run0 (stp_pick_f rfl rfl rfl) ?_
   refine qe rfl ?_
   exact ⟨false, H, ⟨rfl, trivial⟩, trivial⟩
 ·rintro v12 H
  replace H : message_IsField_J1 v12 = some r := H
  unfold message_IsField_J1 at H
  refine awp_ret ?_
  cases H
  exact ⟨trivial, .inl rfl, trivial⟩
theorem k_message_CheckHeaders (l1 : (List S_api_Header)) (r : (Int)) (H : m_message_CheckHeaders l1 = some r) : Fn Tryz.prog 74 [vlst (List.map C_api_Header l1)] (resOf [vint r]) := by
 refine ⟨by kernel_rfl, pure_of (us := [vint r]) Tryz.func74 rfl rfl rfl rfl fun X hN => ?_⟩
 unfold m_message_CheckHeaders at H
 refine awp_seq ?_
 refine awp_plain hN rfl ?_
 refine qe rfl ?_
 refine awp_seq ?_
 refine awp_seq ?_
 refine awp_plain hN rfl ?_
 refine qd rfl ?_
 refine seq_run0 (t_len tyU26 rfl) ?_
 refine seq_run0 (stp_gtr rfl rfl) ?_
 refine awp_cond _ rfl (fun h2 => ?_) (fun h2 => ?_)
 ·replace H := ift h2 H
  refine awp_seq ?_
  refine awp_plain hN rfl ?_
  refine qe rfl ?_
  refine awp_ret ?_
  cases H
  exact ⟨trivial, .inl rfl, trivial⟩
 ·replace H := iff_ h2 H
  refine awp_skip ?_
  refine awp_seq ?_
  refine awp_seq ?_
  refine awp_plain hN rfl ?_
  refine qd rfl ?_
  refine seq_run0 (t_len tyU26 rfl) ?_
  refine qd rfl ?_
  refine awp_block ?_
  obtain ⟨h5, H⟩ := gif H
  refine awp_forL (fun (k3 : Nat) (s : Unit) => [(8, .dat (vlst (List.map C_api_Header l1))), (9, .dat (vint (l1.length : Int))), (10, .dat (vint (k3 : Int)))]) (fun (k3 : Nat) (s : Unit) => []) () H ⟨rfl, rfl, rfl, trivial⟩ trivial (fun _ _ => rfl) ?_ ?_
  ·rintro ⟨⟩ H
   replace H : message_CheckHeaders_E1 = some r := H
   unfold message_CheckHeaders_E1 at H
   refine awp_seq ?_
   refine awp_plain hN rfl ?_
   refine seq_run0 (stp_lss rfl rfl) ?_
   refine awp_seq ?_
   refine awp_cond _ rfl (fun h => (lt_t h).elim) (fun h => ?_)
   refine awp_exit ?_
   refine awp_seq ?_
   refine awp_plain hN rfl ?_
   refine qe rfl ?_
   refine awp_ret ?_
   cases H
   exact ⟨trivial, .inl rfl, trivial⟩
  ·rintro k3 x6 ⟨⟩ q4 h7 h8 H hq4
   replace H : message_CheckHeaders_L1 k3 x6 = some q4 := H
   unfold message_CheckHeaders_L1 at H
   refine awp_seq ?_
   refine awp_plain hN rfl ?_
   refine seq_run0 (stp_lss rfl rfl) ?_
   refine awp_seq ?_
   refine awp_cond _ rfl (fun h => ?_) (fun h => (lt_f h7 h).elim)
   refine awp_skip ?_
   refine awp_seq ?_
   refine awp_block ?_
   refine awp_seq ?_
   refine awp_plain hN rfl ?_
   refine seq_run0 (t_idx tyE26 (fun _ => rfl) rfl rfl h8) ?_
   refine seq_run0 (stp_loadEA tyS54 rfl (map_at h8) rfl) ?_
   refine seq_run2 (stp_alloc 1 tyZ54 rfl) rfl ?_
   refine seq_run2 (stp_storeW tyS54 rfl rfl rfl rfl) rfl ?_
   refine awp_seq ?_
   refine awp_seq ?_
   refine awp_plain hN rfl ?_
   refine seq_run0 (stp_fldP tyF54_0 rfl) ?_
   refine seq_run1 (stp_load1 tyS9 rfl rfl) rfl ?_
   obtain ⟨r9, h10, H⟩ := bnd H
   refine seq_run0 (stp_call (k_message_IsToken x6.Name r9 h10) ⟨.inl rfl, trivial⟩) ?_
   refine seq_run0 (stp_not rfl) ?_
   refine awp_cond _ rfl (fun h11 => ?_) (fun h11 => ?_)
   ·replace H := ift h11 H
    refine awp_seq ?_
    refine awp_plain hN rfl ?_
    refine qe rfl ?_
    refine awp_ret ?_
    replace H := retl H hq4
    cases H
    exact ⟨trivial, .inl rfl, trivial⟩
   ·replace H := iff_ h11 H
    refine awp_skip ?_
    refine awp_seq ?_
    refine awp_plain hN rfl ?_
    refine seq_run0 (stp_fldP tyF54_1 rfl) ?_
    refine seq_run1 (stp_load1 tyS9 rfl rfl) rfl ?_
    obtain ⟨r12, h13, H⟩ := bnd H
    refine seq_run0 (stp_call (k_message_IsField x6.Value r12 h13) ⟨.inl rfl, trivial⟩) ?_
    refine seq_run0 (stp_not rfl) ?_
    refine awp_cond _ rfl (fun h14 => ?_) (fun h14 => ?_)
    ·replace H := ift h14 H
     refine awp_seq ?_
     refine awp_plain hN rfl ?_
     refine qe rfl ?_
     refine awp_ret ?_
     replace H := retl H hq4
     cases H
     exact ⟨trivial, .inl rfl, trivial⟩
    ·replace H := iff_ h14 H
     refine awp_skip ?_
     refine awp_plain hN rfl ?_
     refine seq_run0 (stp_add rfl rfl (by omega)) ?_
     refine qd rfl ?_
     exact ⟨_, backl H, ⟨rfl, rfl, rfl, trivial⟩, trivial⟩
theorem k_message_CheckRequest (r1 : S_api_Request) (r : (Int)) (H : m_message_CheckRequest r1 = some r) : Fn Tryz.prog 25 [vagg (C_api_Request r1)] (resOf [vint r]) := by
 refine ⟨by kernel_rfl, pure_of (us := [vint r]) Tryz.func25 rfl rfl rfl rfl fun X hN => ?_⟩
 unfold m_message_CheckRequest at H
 refine awp_seq ?_
 refine awp_plain hN rfl ?_
 refine seq_run2 (stp_boxA 1 rfl) rfl ?_
 refine qe rfl ?_
 refine awp_seq ?_
 refine awp_seq ?_
 refine awp_plain hN rfl ?_
 refine seq_run0 (stp_fldP tyF28_0 rfl) ?_
 refine seq_run1 (stp_load1 tyS3 rfl rfl) rfl ?_
 obtain ⟨r2, h3, H⟩ := bnd H
 refine seq_run0 (stp_call (k_kit_IsMoment r1.At r2 h3) ⟨.inl rfl, trivial⟩) ?_
 refine seq_run0 (stp_not rfl) ?_
 refine awp_cond _ rfl (fun h4 => ?_) (fun h4 => ?_)
 ·replace H := ift h4 H
  refine awp_seq ?_
  refine awp_plain hN rfl ?_
  refine qe rfl ?_
  refine awp_ret ?_
  cases H
  exact ⟨trivial, .inl rfl, trivial⟩
 ·replace H := iff_ h4 H
  refine awp_skip ?_
  refine awp_seq ?_
  refine awp_seq ?_
  refine awp_plain hN rfl ?_
  refine seq_run0 (stp_fldP tyF28_1 rfl) ?_
  refine seq_run1 (stp_load1 tyS9 rfl rfl) rfl ?_
  obtain ⟨r5, h6, H⟩ := bnd H
  refine seq_run0 (stp_call (k_message_IsToken r1.Method r5 h6) ⟨.inl rfl, trivial⟩) ?_
  refine seq_run0 (stp_not rfl) ?_
  refine awp_cond _ rfl (fun h7 => ?_) (fun h7 => ?_)
  ·replace H := ift h7 H
   refine awp_seq ?_
   refine awp_plain hN rfl ?_
   refine qe rfl ?_
   refine awp_ret ?_
   cases H
   exact ⟨trivial, .inl rfl, trivial⟩
  ·replace H := iff_ h7 H
   refine awp_skip ?_
   refine awp_seq ?_
   refine awp_joinE (ι := Bool) (fun i => [(1, .ptr 1 0), (33, .dat (vbool i))]) (fun i => [(1, .box none 28 [.dat (vint r1.At), .dat (vstr r1.Method), .dat (vstr r1.Host), .dat (vstr r1.Path), .dat (vstr r1.Query), .dat (vstr r1.From), .dat (vlst (List.map C_api_Header r1.Headers)), .dat (vstr r1.Body)])]) (fun i => message_CheckRequest_J1 r1 i = some r) (fun i => rfl) ?_ ?_
   ·skip
    refine awp_plain hN rfl ?_
    refine seq_run0 (stp_fldP tyF28_2 rfl) ?_
    refine seq_run1 (stp_load1 tyS9 rfl rfl) rfl ?_
    obtain ⟨r8, h9, H⟩ := bnd H
    refine seq_run0 (stp_call (k_message_isHost r1.Host r8 h9) ⟨.inl rfl, trivial⟩) ?_
    refine seq_run0 (stp_not rfl) ?_
    refine qd rfl ?_
    refine seq_split (j := 4) rfl rfl (fun h10 => ?_) (fun h10 => ?_) rfl
    ·have h11 := un3 h10
     replace H := iff_ h11 H
     refine seq_g0 rfl rfl h10 (stp_fldP tyF28_3 rfl) ?_
     refine seq_g1 rfl rfl h10 (stp_load1 tyS9 rfl rfl) rfl ?_
     obtain ⟨r12, h13, H⟩ := bnd H
     refine seq_g0 rfl rfl h10 (stp_call (k_message_PathFault r1.Path r12 h13) ⟨.inl rfl, trivial⟩) ?_
     refine seq_g0 rfl rfl h10 (stp_neq rfl rfl) ?_
     refine seq_run0 (stp_pick_f rfl (bFF h11) rfl) ?_
     refine qd rfl ?_
     refine seq_split (j := 10) rfl rfl (fun h14 => ?_) (fun h14 => ?_) rfl
     ·have h15 := un3 h14
      replace H := iff_ h15 H
      refine seq_g0 rfl rfl h14 (stp_fldP tyF28_4 rfl) ?_
      refine seq_g1 rfl rfl h14 (stp_load1 tyS9 rfl rfl) rfl ?_
      obtain ⟨r16, h17, H⟩ := bnd H
      refine seq_g0 rfl rfl h14 (stp_call (k_message_queryFault r1.Query r16 h17) ⟨.inl rfl, trivial⟩) ?_
      refine seq_g0 rfl rfl h14 (stp_neq rfl rfl) ?_
      refine seq_run0 (stp_pick_f rfl (bFF h15) rfl) ?_
      refine qd rfl ?_
      refine seq_split (j := 16) rfl rfl (fun h18 => ?_) (fun h18 => ?_) rfl
      ·have h19 := un3 h18
       replace H := iff_ h19 H
       refine seq_g0 rfl rfl h18 (stp_fldP tyF28_5 rfl) ?_
       refine seq_g1 rfl rfl h18 (stp_load1 tyS9 rfl rfl) rfl ?_
       obtain ⟨r20, h21, H⟩ := bnd H
       refine seq_g0 rfl rfl h18 (stp_call (k_message_IsField r1.From r20 h21) ⟨.inl rfl, trivial⟩) ?_
       refine seq_g0 rfl rfl h18 (stp_not rfl) ?_
       refine seq_run0 (stp_pick_f rfl (bFF h19) rfl) ?_
       exact ⟨!r20, H, ⟨rfl, rfl, trivial⟩, ⟨rfl, trivial⟩⟩
      ·have h22 := un4 h18
       replace H := ift h22 H
       refine seq_skip rfl rfl h18 ?_
       refine seq_skip rfl rfl h18 ?_
       refine seq_skip rfl rfl h18 ?_
       refine seq_skip rfl rfl h18 ?_
       refine seq_run0 (stp_pick_t rfl (bTT h22) rfl) ?_
       exact ⟨true, H, ⟨rfl, rfl, trivial⟩, ⟨rfl, trivial⟩⟩
     ·have h23 := un4 h14
      replace H := ift h23 H
      refine seq_skip rfl rfl h14 ?_
      refine seq_skip rfl rfl h14 ?_
      refine seq_skip rfl rfl h14 ?_
      refine seq_skip rfl rfl h14 ?_
      refine seq_run0 (stp_pick_t rfl (bTT h23) rfl) ?_
      refine qd rfl ?_
      refine seq_skip rfl rfl rfl ?_
      refine seq_skip rfl rfl rfl ?_
      refine seq_skip rfl rfl rfl ?_
      refine seq_skip rfl rfl rfl ?_
      refine seq_run0 (stp_pick_t rfl rfl rfl) ?_
      exact ⟨true, H, ⟨rfl, rfl, trivial⟩, ⟨rfl, trivial⟩⟩
    ·have h24 := un4 h10
     replace H := ift h24 H
     refine seq_skip rfl rfl h10 ?_
     refine seq_skip rfl rfl h10 ?_
     refine seq_skip rfl rfl h10 ?_
     refine seq_skip rfl rfl h10 ?_
     refine seq_run0 (stp_pick_t rfl (bTT h24) rfl) ?_
     refine qd rfl ?_
     refine seq_skip rfl rfl rfl ?_
     refine seq_skip rfl rfl rfl ?_
     refine seq_skip rfl rfl rfl ?_
     refine seq_skip rfl rfl rfl ?_
     refine seq_run0 (stp_pick_t rfl rfl rfl) ?_
     refine qd rfl ?_
     refine seq_skip rfl rfl rfl ?_
     refine seq_skip rfl rfl rfl ?_
     refine seq_skip rfl rfl rfl ?_
     refine seq_skip rfl rfl rfl ?_
     refine seq_run0 (stp_pick_t rfl rfl rfl) ?_
     exact ⟨true, H, ⟨rfl, rfl, trivial⟩, ⟨rfl, trivial⟩⟩
   ·rintro v25 H
    replace H : message_CheckRequest_J1 r1 v25 = some r := H
    unfold message_CheckRequest_J1 at H
    refine awp_cond _ rfl (fun h26 => ?_) (fun h26 => ?_)
    ·replace H := ift h26 H
     refine awp_seq ?_
     refine awp_plain hN rfl ?_
     refine qe rfl ?_
     refine awp_ret ?_
     cases H
     exact ⟨trivial, .inl rfl, trivial⟩
    ·replace H := iff_ h26 H
     refine awp_skip ?_
     refine awp_seq ?_
     refine awp_seq ?_
     refine awp_plain hN rfl ?_
     refine seq_run0 (stp_fldP tyF28_6 rfl) ?_
     refine seq_run1 (stp_load1 tyS26 rfl rfl) rfl ?_
     obtain ⟨r27, h28, H⟩ := bnd H
     refine seq_run0 (stp_call (k_message_CheckHeaders r1.Headers r27 h28) ⟨.inl rfl, trivial⟩) ?_
     refine qe rfl ?_
     refine awp_seq ?_
     refine awp_plain hN rfl ?_
     refine qd rfl ?_
     refine seq_run0 (stp_neq rfl rfl) ?_
     refine awp_cond _ rfl (fun h29 => ?_) (fun h29 => ?_)
     ·replace H := ift h29 H
      refine awp_seq ?_
      refine awp_plain hN rfl ?_
      refine qd rfl ?_
      refine qe rfl ?_
      refine awp_ret ?_
      cases H
      exact ⟨trivial, .inl rfl, trivial⟩
     ·replace H := iff_ h29 H
      refine awp_skip ?_
      refine awp_seq ?_
      refine awp_seq ?_
      refine awp_plain hN rfl ?_
      refine seq_run0 (stp_fldP tyF28_7 rfl) ?_
      refine seq_run1 (stp_load1 tyS9 rfl rfl) rfl ?_
      refine seq_run0 (stp_len_str tyU9 rfl) ?_
      refine seq_run0 (stp_gtr rfl rfl) ?_
      refine awp_cond _ rfl (fun h30 => ?_) (fun h30 => ?_)
      ·replace H := ift h30 H
       refine awp_seq ?_
       refine awp_plain hN rfl ?_
       refine qe rfl ?_
       refine awp_ret ?_
       cases H
       exact ⟨trivial, .inl rfl, trivial⟩
      ·replace H := iff_ h30 H
       refine awp_skip ?_
       refine awp_seq ?_
       refine awp_plain hN rfl ?_
       refine qe rfl ?_
       refine awp_ret ?_
       cases H
       exact ⟨trivial, .inl rfl, trivial⟩
theorem k_strings_EqualFold (s t : Bs) (r : Bool) (H : m_strings_EqualFold s t = some r) : Fn Tryz.prog 122 [vstr s, vstr t] (resOf [vbool r]) := by
 unfold m_strings_EqualFold at H
 obtain ⟨⟨h1, h2, h3⟩, h4⟩ := gif H
 cases h4
 refine fn_of_callsG (by kernel_rfl) fun M w vs hM h => ?_
 have hv := Ts_vals (us := [.string ⟨s.toArray⟩, .string ⟨t.toArray⟩]) h
 subst hv
 refine (Tryz.strings_EqualFold ⟨s.toArray⟩ ⟨t.toArray⟩ w (by simp [ByteArray.size]; omega) (fun j b hb => ascB_at h2 j b (by simpa using hb)) (fun j b hb => ascB_at h3 j b (by simpa using hb))).mono ?_
 rintro e w' ⟨rfl, rfl⟩
 exact ⟨_, rfl, rfl, Kp.refl _ _⟩

theorem k_message_isNamed (h1 : S_api_Header) (name2 : Bs) (r : (Bool)) (H : m_message_isNamed h1 name2 = some r) : Fn Tryz.prog 78 [vagg (C_api_Header h1), vstr name2] (resOf [vbool r]) := by
 refine ⟨by kernel_rfl, pure_of (us := [vbool r]) Tryz.func78 rfl rfl rfl rfl fun X hN => ?_⟩
 unfold m_message_isNamed at H
 refine awp_seq ?_
 refine awp_plain hN rfl ?_
 refine seq_run2 (stp_boxA 1 rfl) rfl ?_
 refine qe rfl ?_
 refine awp_seq ?_
 refine awp_plain hN rfl ?_
 refine seq_run0 (stp_fldP tyF54_0 rfl) ?_
 refine seq_run1 (stp_load1 tyS9 rfl rfl) rfl ?_
 refine qd rfl ?_
 obtain ⟨r3, h4, H⟩ := bnd H
 refine seq_run0 (stp_call (k_strings_EqualFold h1.Name name2 r3 h4) ⟨.inl rfl, .inl rfl, trivial⟩) ?_
 refine qe rfl ?_
 refine awp_ret ?_
 cases H
 exact ⟨trivial, .inl rfl, trivial⟩
theorem k_message_Values (l1 : (List S_api_Header)) (name2 : Bs) (r : ((List Bs))) (H : m_message_Values l1 name2 = some r) : Fn Tryz.prog 28 [vlst (List.map C_api_Header l1), vstr name2] (resOf [vlst (List.map C_string r)]) := by
 refine ⟨by kernel_rfl, pure_of (us := [vlst (List.map C_string r)]) Tryz.func28 rfl rfl rfl rfl fun X hN => ?_⟩
 unfold m_message_Values at H
 refine awp_seq ?_
 refine awp_plain hN rfl ?_
 refine qe rfl ?_
 refine awp_seq ?_
 refine awp_plain hN rfl ?_
 refine qe rfl ?_
 refine awp_seq ?_
 refine awp_seq ?_
 refine awp_plain hN rfl ?_
 refine qd rfl ?_
 refine seq_run0 (t_len tyU26 rfl) ?_
 refine qd rfl ?_
 refine awp_block ?_
 refine awp_nilrow 5 1 9 1 rfl rfl rfl ?_
 obtain ⟨h6, H⟩ := gif H
 refine awp_forL (fun (k4 : Nat) (s : (List Bs)) => [(1, .dat (vstr name2)), (5, .row 1 s.length), (8, .dat (vlst (List.map C_api_Header l1))), (9, .dat (vint (l1.length : Int))), (10, .dat (vint (k4 : Int)))]) (fun (k4 : Nat) (s : (List Bs)) => [(1, .row 9 1 (List.map C_string s))]) [] H ⟨rfl, rfl, rfl, rfl, rfl, trivial⟩ ⟨rfl, trivial⟩ (fun _ _ => rfl) ?_ ?_
 ·rintro l3 H
  replace H : message_Values_E1 l3 = some r := H
  unfold message_Values_E1 at H
  refine awp_seq ?_
  refine awp_plain hN rfl ?_
  refine seq_run0 (stp_lss rfl rfl) ?_
  refine awp_seq ?_
  refine awp_cond _ rfl (fun h => (lt_t h).elim) (fun h => ?_)
  refine awp_exit ?_
  refine awp_seq ?_
  refine awp_plain hN rfl ?_
  refine seq_run0 (stp_move (.row _ _) rfl) ?_
  refine seq_run0 (stp_assign (.row _ _) rfl) ?_
  refine awp_ret ?_
  cases H
  exact ⟨trivial, t_slotv rfl rfl, trivial⟩
 ·rintro k4 x7 l3 q5 h8 h9 H hq5
  replace H : message_Values_L1 name2 k4 x7 l3 = some q5 := H
  unfold message_Values_L1 at H
  refine awp_seq ?_
  refine awp_plain hN rfl ?_
  refine seq_run0 (stp_lss rfl rfl) ?_
  refine awp_seq ?_
  refine awp_cond _ rfl (fun h => ?_) (fun h => (lt_f h8 h).elim)
  refine awp_skip ?_
  refine awp_joinE (ι := (List Bs)) (fun i => [(1, .dat (vstr name2)), (5, .row 1 i.length), (8, .dat (vlst (List.map C_api_Header l1))), (9, .dat (vint (l1.length : Int))), (10, .dat (vint (k4 : Int)))]) (fun i => [(1, .row 9 1 (List.map C_string i))]) (fun i => message_Values_J2 i = some q5) (fun i => rfl) ?_ ?_
  ·skip
   refine awp_block ?_
   refine awp_seq ?_
   refine awp_plain hN rfl ?_
   refine seq_run0 (t_idx tyE26 (fun _ => rfl) rfl rfl h9) ?_
   refine seq_run0 (stp_loadEA tyS54 rfl (map_at h9) rfl) ?_
   refine seq_run2 (stp_alloc 2 tyZ54 rfl) rfl ?_
   refine seq_run2 (stp_storeW tyS54 rfl rfl rfl rfl) rfl ?_
   refine awp_seq ?_
   refine awp_plain hN rfl ?_
   refine seq_run1 (stp_loadA tyS54 rfl rfl rfl) rfl ?_
   refine qd rfl ?_
   obtain ⟨r10, h11, H⟩ := bnd H
   refine seq_run0 (stp_call (k_message_isNamed x7 name2 r10 h11) ⟨.inl rfl, .inl rfl, trivial⟩) ?_
   refine awp_cond _ rfl (fun h12 => ?_) (fun h12 => ?_)
   ·replace H := ift h12 H
    refine awp_plain hN rfl ?_
    refine seq_run0 (stp_move (.row _ _) rfl) ?_
    refine seq_run0 (stp_fldP tyF54_1 rfl) ?_
    refine seq_run1 (stp_load1 tyS9 rfl rfl) rfl ?_
    refine seq_run0 (stp_dat (u' := vlst (List.map C_string [x7.Value])) (stp_lit [[_]] tyL31 ⟨rfl, .inl ⟨_, rfl, rfl, rfl⟩, rfl, trivial⟩ rfl rfl) rfl) ?_
    obtain ⟨h13, H⟩ := gif H
    refine seq_run2 (t_app tyL31 (fun _ => rfl) rfl rfl rfl ⟨by simp, by first | (simp; done) | simpa using h13⟩ rfl) rfl ?_
    refine seq_run0 (stp_assign (.row _ _) rfl) ?_
    exact ⟨(l3 ++ [x7.Value]), H, ⟨rfl, rfl, rfl, rfl, rfl, trivial⟩, ⟨rfl, trivial⟩⟩
   ·replace H := iff_ h12 H
    refine awp_skip ?_
    exact ⟨l3, H, ⟨rfl, rfl, rfl, rfl, rfl, trivial⟩, ⟨rfl, trivial⟩⟩
  ·rintro out14 H
   replace H : message_Values_J2 out14 = some q5 := H
   unfold message_Values_J2 at H
   refine awp_plain hN rfl ?_
   refine seq_run0 (stp_add rfl rfl (by omega)) ?_
   refine qd rfl ?_
   exact ⟨_, backl H, ⟨rfl, rfl, rfl, rfl, rfl, trivial⟩, ⟨rfl, trivial⟩⟩
theorem k_message_Parts (values1 : (List Bs)) (r : ((List Bs))) (H : m_message_Parts values1 = some r) : Fn Tryz.prog 27 [vlst (List.map C_string values1)] (resOf [vlst (List.map C_string r)]) := by
 refine ⟨by kernel_rfl, pure_of (us := [vlst (List.map C_string r)]) Tryz.func27 rfl rfl rfl rfl fun X hN => ?_⟩
 unfold m_message_Parts at H
 refine awp_seq ?_
 refine awp_plain hN rfl ?_
 refine qe rfl ?_
 refine awp_seq ?_
 refine awp_plain hN rfl ?_
 refine qe rfl ?_
 refine awp_seq ?_
 refine awp_seq ?_
 refine awp_plain hN rfl ?_
 refine qd rfl ?_
 refine seq_run0 (t_len tyU31 rfl) ?_
 refine qd rfl ?_
 refine awp_block ?_
 refine awp_nilrow 3 1 9 1 rfl rfl rfl ?_
 obtain ⟨h5, H⟩ := gif H
 refine awp_forL (fun (k3 : Nat) (s : (List Bs)) => [(3, .row 1 s.length), (8, .dat (vlst (List.map C_string values1))), (9, .dat (vint (values1.length : Int))), (10, .dat (vint (k3 : Int)))]) (fun (k3 : Nat) (s : (List Bs)) => [(1, .row 9 1 (List.map C_string s))]) [] H ⟨rfl, rfl, rfl, rfl, trivial⟩ ⟨rfl, trivial⟩ (fun _ _ => rfl) ?_ ?_
 ·rintro l2 H
  replace H : message_Parts_E1 l2 = some r := H
  unfold message_Parts_E1 at H
  refine awp_seq ?_
  refine awp_plain hN rfl ?_
  refine seq_run0 (stp_lss rfl rfl) ?_
  refine awp_seq ?_
  refine awp_cond _ rfl (fun h => (lt_t h).elim) (fun h => ?_)
  refine awp_exit ?_
  refine awp_seq ?_
  refine awp_plain hN rfl ?_
  refine seq_run0 (stp_move (.row _ _) rfl) ?_
  refine seq_run0 (stp_assign (.row _ _) rfl) ?_
  refine awp_ret ?_
  cases H
  exact ⟨trivial, t_slotv rfl rfl, trivial⟩
 ·rintro k3 x6 l2 q4 h7 h8 H hq4
  replace H : message_Parts_L1 k3 x6 l2 = some q4 := H
  unfold message_Parts_L1 at H
  refine awp_seq ?_
  refine awp_plain hN rfl ?_
  refine seq_run0 (stp_lss rfl rfl) ?_
  refine awp_seq ?_
  refine awp_cond _ rfl (fun h => ?_) (fun h => (lt_f h7 h).elim)
  refine awp_skip ?_
  refine awp_seq ?_
  refine awp_block ?_
  refine awp_seq ?_
  refine awp_plain hN rfl ?_
  refine seq_run0 (t_idx tyE31 (fun _ => rfl) rfl rfl h8) ?_
  refine seq_run0 (stp_loadE1 tyS9 rfl (map_at h8) rfl) ?_
  refine qe rfl ?_
  refine awp_seq ?_
  refine awp_plain hN rfl ?_
  refine qd rfl ?_
  obtain ⟨r9, h10, H⟩ := bnd H
  refine seq_run0 (stp_call (k_strings_Split x6 [44] r9 h10) ⟨.inl rfl, .inl rfl, trivial⟩) ?_
  refine seq_run0 (t_len tyU31 rfl) ?_
  refine qd rfl ?_
  refine awp_block ?_
  obtain ⟨h14, H⟩ := gif H
  refine awp_forL (fun (k12 : Nat) (s : (List Bs)) => [(3, .row 1 s.length), (8, .dat (vlst (List.map C_string values1))), (9, .dat (vint (values1.length : Int))), (10, .dat (vint (k3 : Int))), (15, .dat (vlst (List.map C_string r9))), (16, .dat (vint (r9.length : Int))), (17, .dat (vint (k12 : Int)))]) (fun (k12 : Nat) (s : (List Bs)) => [(1, .row 9 1 (List.map C_string s))]) l2 H ⟨rfl, rfl, rfl, rfl, rfl, rfl, rfl, trivial⟩ ⟨rfl, trivial⟩ (fun _ _ => rfl) ?_ ?_
  ·rintro l11 H
   replace H : message_Parts_E2 l11 = some q4 := H
   unfold message_Parts_E2 at H
   refine awp_seq ?_
   refine awp_plain hN rfl ?_
   refine seq_run0 (stp_lss rfl rfl) ?_
   refine awp_seq ?_
   refine awp_cond _ rfl (fun h => (lt_t h).elim) (fun h => ?_)
   refine awp_exit ?_
   refine awp_plain hN rfl ?_
   refine seq_run0 (stp_add rfl rfl (by omega)) ?_
   refine qd rfl ?_
   exact ⟨_, backl H, ⟨rfl, rfl, rfl, rfl, trivial⟩, ⟨rfl, trivial⟩⟩
  ·rintro k12 x15 l11 q13 h16 h17 H hq13
   replace H : message_Parts_L2 k12 x15 l11 = some q13 := H
   unfold message_Parts_L2 at H
   refine awp_seq ?_
   refine awp_plain hN rfl ?_
   refine seq_run0 (stp_lss rfl rfl) ?_
   refine awp_seq ?_
   refine awp_cond _ rfl (fun h => ?_) (fun h => (lt_f h16 h).elim)
   refine awp_skip ?_
   refine awp_joinE (ι := (List Bs)) (fun i => [(3, .row 1 i.length), (8, .dat (vlst (List.map C_string values1))), (9, .dat (vint (values1.length : Int))), (10, .dat (vint (k3 : Int))), (15, .dat (vlst (List.map C_string r9))), (16, .dat (vint (r9.length : Int))), (17, .dat (vint (k12 : Int)))]) (fun i => [(1, .row 9 1 (List.map C_string i))]) (fun i => message_Parts_J3 i = some q13) (fun i => rfl) ?_ ?_
   ·skip
    refine awp_block ?_
    refine awp_seq ?_
    refine awp_plain hN rfl ?_
    refine seq_run0 (t_idx tyE31 (fun _ => rfl) rfl rfl h17) ?_
    refine seq_run0 (stp_loadE1 tyS9 rfl (map_at h17) rfl) ?_
    refine qe rfl ?_
    refine awp_seq ?_
    refine awp_plain hN rfl ?_
    refine qd rfl ?_
    obtain ⟨r18, h19, H⟩ := bnd H
    refine seq_run0 (stp_call (k_strings_Trim x15 [32] r18 h19) ⟨.inl rfl, .inl rfl, trivial⟩) ?_
    refine qe rfl ?_
    refine awp_seq ?_
    refine awp_plain hN rfl ?_
    refine qd rfl ?_
    refine seq_run0 (stp_sneq rfl rfl) ?_
    refine awp_cond _ rfl (fun h20 => ?_) (fun h20 => ?_)
    ·replace H := ift h20 H
     refine awp_plain hN rfl ?_
     refine seq_run0 (stp_move (.row _ _) rfl) ?_
     refine qd rfl ?_
     refine seq_run0 (stp_dat (u' := vlst (List.map C_string [r18])) (stp_lit [[_]] tyL31 ⟨rfl, .inl ⟨_, rfl, rfl, rfl⟩, rfl, trivial⟩ rfl rfl) rfl) ?_
     obtain ⟨h21, H⟩ := gif H
     refine seq_run2 (t_app tyL31 (fun _ => rfl) rfl rfl rfl ⟨by simp, by first | (simp; done) | simpa using h21⟩ rfl) rfl ?_
     refine seq_run0 (stp_assign (.row _ _) rfl) ?_
     exact ⟨(l11 ++ [r18]), H, ⟨rfl, rfl, rfl, rfl, rfl, rfl, rfl, trivial⟩, ⟨rfl, trivial⟩⟩
    ·replace H := iff_ h20 H
     refine awp_skip ?_
     exact ⟨l11, H, ⟨rfl, rfl, rfl, rfl, rfl, rfl, rfl, trivial⟩, ⟨rfl, trivial⟩⟩
   ·rintro out22 H
    replace H : message_Parts_J3 out22 = some q13 := H
    unfold message_Parts_J3 at H
    refine awp_plain hN rfl ?_
    refine seq_run0 (stp_add rfl rfl (by omega)) ?_
    refine qd rfl ?_
    exact ⟨_, backl H, ⟨rfl, rfl, rfl, rfl, rfl, rfl, rfl, trivial⟩, ⟨rfl, trivial⟩⟩
theorem k_slices_Index_L_string_string_ (s1 : (List Bs)) (v2 : Bs) (r : (Int)) (H : m_slices_Index_L_string_string_ s1 v2 = some r) : Fn Tryz.prog 79 [vlst (List.map C_string s1), vstr v2] (resOf [vint r]) := by
 refine ⟨by kernel_rfl, pure_of (us := [vint r]) Tryz.func79 rfl rfl rfl rfl fun X hN => ?_⟩
 unfold m_slices_Index_L_string_string_ at H
 refine awp_seq ?_
 refine awp_plain hN rfl ?_
 refine qe rfl ?_
 refine awp_seq ?_
 refine awp_seq ?_
 refine awp_plain hN rfl ?_
 refine qd rfl ?_
 refine seq_run0 (t_len tyU31 rfl) ?_
 refine qd rfl ?_
 refine awp_block ?_
 obtain ⟨h5, H⟩ := gif H
 refine awp_forL (fun (k3 : Nat) (s : Unit) => [(0, .dat (vlst (List.map C_string s1))), (1, .dat (vstr v2)), (7, .dat (vint (s1.length : Int))), (8, .dat (vint (k3 : Int)))]) (fun (k3 : Nat) (s : Unit) => []) () H ⟨rfl, rfl, rfl, rfl, trivial⟩ trivial (fun _ _ => rfl) ?_ ?_
 ·rintro ⟨⟩ H
  replace H : slices_Index_L_string_string__E1 = some r := H
  unfold slices_Index_L_string_string__E1 at H
  refine awp_seq ?_
  refine awp_plain hN rfl ?_
  refine seq_run0 (stp_lss rfl rfl) ?_
  refine awp_seq ?_
  refine awp_cond _ rfl (fun h => (lt_t h).elim) (fun h => ?_)
  refine awp_exit ?_
  refine awp_seq ?_
  refine awp_plain hN rfl ?_
  refine qe rfl ?_
  refine awp_ret ?_
  cases H
  exact ⟨trivial, .inl rfl, trivial⟩
 ·rintro k3 x6 ⟨⟩ q4 h7 h8 H hq4
  replace H : slices_Index_L_string_string__L1 v2 k3 x6 = some q4 := H
  unfold slices_Index_L_string_string__L1 at H
  refine awp_seq ?_
  refine awp_plain hN rfl ?_
  refine seq_run0 (stp_lss rfl rfl) ?_
  refine awp_seq ?_
  refine awp_cond _ rfl (fun h => ?_) (fun h => (lt_f h7 h).elim)
  refine awp_skip ?_
  refine awp_seq ?_
  refine awp_block ?_
  refine awp_seq ?_
  refine awp_plain hN rfl ?_
  refine qd rfl ?_
  refine qe rfl ?_
  refine awp_seq ?_
  refine awp_plain hN rfl ?_
  refine qd rfl ?_
  refine qd rfl ?_
  refine qd rfl ?_
  refine seq_run0 (t_idx tyE31 (fun _ => rfl) rfl rfl h8) ?_
  refine seq_run0 (stp_loadE1 tyS9 rfl (map_at h8) rfl) ?_
  refine seq_run0 (stp_seql rfl rfl) ?_
  refine awp_cond _ rfl (fun h9 => ?_) (fun h9 => ?_)
  ·replace H := ift h9 H
   refine awp_seq ?_
   refine awp_plain hN rfl ?_
   refine qd rfl ?_
   refine qe rfl ?_
   refine awp_ret ?_
   replace H := retl H hq4
   cases H
   exact ⟨trivial, .inl rfl, trivial⟩
  ·replace H := iff_ h9 H
   refine awp_skip ?_
   refine awp_plain hN rfl ?_
   refine seq_run0 (stp_add rfl rfl (by omega)) ?_
   refine qd rfl ?_
   exact ⟨_, backl H, ⟨rfl, rfl, rfl, rfl, trivial⟩, trivial⟩
theorem k_slices_Contains_L_string_string_ (s1 : (List Bs)) (v2 : Bs) (r : (Bool)) (H : m_slices_Contains_L_string_string_ s1 v2 = some r) : Fn Tryz.prog 29 [vlst (List.map C_string s1), vstr v2] (resOf [vbool r]) := by
 refine ⟨by kernel_rfl, pure_of (us := [vbool r]) Tryz.func29 rfl rfl rfl rfl fun X hN => ?_⟩
 unfold m_slices_Contains_L_string_string_ at H
 refine awp_seq ?_
 refine awp_plain hN rfl ?_
 refine qe rfl ?_
 refine awp_seq ?_
 refine awp_plain hN rfl ?_
 refine qd rfl ?_
 refine qd rfl ?_
 obtain ⟨r3, h4, H⟩ := bnd H
 refine seq_run0 (stp_call (k_slices_Index_L_string_string_ s1 v2 r3 h4) ⟨.inl rfl, .inl rfl, trivial⟩) ?_
 refine seq_run0 (stp_geq rfl rfl) ?_
 refine qe rfl ?_
 refine awp_ret ?_
 cases H
 exact ⟨trivial, .inl rfl, trivial⟩
theorem kr_slices_Clone_L_api_Header_api_Header_ (l r : List S_api_Header) (H : m_slices_Clone l = some r) : FnG Tryz.prog 30 [.dat (vlst (List.map C_api_Header l))] [] (.row 900 r.length) [(900, .row 54 2 (List.map C_api_Header r))] := by
 obtain ⟨hl, rfl⟩ := clone_some H
 refine fnG_of (by kernel_rfl) Tryz.func30 rfl rfl rfl rfl fun X A hN => ?_
 refine awp_nilcase 0 rfl (fun h0 => ?_) ?_
 ·obtain rfl := List.map_eq_nil_iff.1 h0
  refine awp_seq ?_
  refine awp_plain hN rfl ?_
  refine qe rfl ?_
  refine awp_seq ?_
  refine awp_seq ?_
  refine awp_plain hN rfl ?_
  refine qd rfl ?_
  refine seq_run0 (stp_eqnil_t tyU26 rfl) ?_
  refine awp_cond _ rfl (fun h => ?_) (fun h => by cases h)
  refine awp_seq ?_
  refine awp_plain hN rfl ?_
  refine qe rfl ?_
  refine awp_nilrow 2 900 54 2 rfl rfl rfl ?_
  refine awp_ret ?_
  exact ⟨trivial, [(2, .row 900 0)], ⟨rfl, trivial⟩, ⟨rfl, trivial⟩, rfl, .inr ⟨2, rfl, rfl⟩⟩
 ·refine awp_seq ?_
  refine awp_plain hN rfl ?_
  refine qe rfl ?_
  refine awp_seq ?_
  refine awp_seq ?_
  refine awp_plain hN rfl ?_
  refine qd rfl ?_
  refine seq_run0 (stp_eqnil_f tyU26 rfl) ?_
  refine awp_cond _ rfl (fun h => by cases h) (fun h => ?_)
  refine awp_skip ?_
  refine awp_seq ?_
  refine awp_wk 0 (u' := vlst (List.map C_api_Header l)) rfl wk_nn ?_
  refine awp_plain hN rfl ?_
  refine seq_run2 (stp_lit0 900 tyL26) rfl ?_
  refine qd rfl ?_
  refine seq_run2 (t_app2 (C := C_api_Header) (xs := []) tyL26 (fun _ => rfl) rfl rfl rfl (by simpa using hl) rfl) rfl ?_
  refine seq_run0 (stp_assign (.row _ _) rfl) ?_
  refine awp_ret ?_
  exact ⟨trivial, [(2, .row 900 l.length)], ⟨rfl, trivial⟩, ⟨rfl, trivial⟩, rfl, .inr ⟨2, rfl, rfl⟩⟩
theorem k_slices_Clone_L_api_Header_api_Header_ (l r : List S_api_Header) (H : m_slices_Clone l = some r) : Fn Tryz.prog 30 [vlst (List.map C_api_Header l)] (resOf [vlst (List.map C_api_Header r)]) := by
 have h := kr_slices_Clone_L_api_Header_api_Header_ l r H
 rw [← List.length_map (f := C_api_Header)] at h
 exact fn_of_fnG h
theorem k_message_hopNames  (r : ((List Bs))) (H : m_message_hopNames  = some r) : Fn Tryz.prog 32 [] (resOf [vlst (List.map C_string r)]) := by
 refine ⟨by kernel_rfl, pure_of (us := [vlst (List.map C_string r)]) Tryz.func32 rfl rfl rfl rfl fun X hN => ?_⟩
 unfold m_message_hopNames at H
 refine awp_seq ?_
 refine awp_plain hN rfl ?_
 refine qe rfl ?_
 refine awp_seq ?_
 refine awp_plain hN rfl ?_
 refine seq_run0 (stp_dat (u' := vlst (List.map C_string [[99, 111, 110, 110, 101, 99, 116, 105, 111, 110], [107, 101, 101, 112, 45, 97, 108, 105, 118, 101], [116, 101], [116, 114, 97, 105, 108, 101, 114], [117, 112, 103, 114, 97, 100, 101]])) (stp_lit [[_], [_], [_], [_], [_]] tyL31 ⟨rfl, .inl ⟨_, rfl, rfl, rfl⟩, rfl, rfl, .inl ⟨_, rfl, rfl, rfl⟩, rfl, rfl, .inl ⟨_, rfl, rfl, rfl⟩, rfl, rfl, .inl ⟨_, rfl, rfl, rfl⟩, rfl, rfl, .inl ⟨_, rfl, rfl, rfl⟩, rfl, trivial⟩ rfl rfl) rfl) ?_
 refine qe rfl ?_
 refine awp_ret ?_
 cases H
 exact ⟨trivial, .inl rfl, trivial⟩
theorem kr_slices_Grow_L_string_string_ (n : Int) (r : List Bs) (H : m_slices_Grow n = some r) : FnG Tryz.prog 80 [.dat vnil, .dat (vint n)] [] (.row 900 r.length) [(900, .row 9 1 (List.map C_string r))] := by
 obtain ⟨h0, h1, rfl⟩ := grow_some H
 exact fnG_grow Tryz.grow80 rfl rfl tyL31 rfl (by kernel_rfl) n h0 h1
theorem k_slices_Grow_L_string_string_ (n : Int) (r : List Bs) (H : m_slices_Grow n = some r) : Fn Tryz.prog 80 [vnil, vint n] (resOf [vlst (List.map C_string r)]) := by
 have h := kr_slices_Grow_L_string_string_ n r H
 rw [← List.length_map (f := C_string)] at h
 exact fn_of_fnG h
theorem k_slices_Concat_L_string_string_ (slices1 : (List (List Bs))) (r : ((List Bs))) (H : m_slices_Concat_L_string_string_ slices1 = some r) : Fn Tryz.prog 31 [vlst (List.map C_L_string slices1)] (resOf [vlst (List.map C_string r)]) := by
 refine ⟨by kernel_rfl, pure_of (us := [vlst (List.map C_string r)]) Tryz.func31 rfl rfl rfl rfl fun X hN => ?_⟩
 unfold m_slices_Concat_L_string_string_ at H
 refine awp_seq ?_
 refine awp_plain hN rfl ?_
 refine qe rfl ?_
 refine awp_seq ?_
 refine awp_plain hN rfl ?_
 refine qe rfl ?_
 refine awp_seq ?_
 refine awp_seq ?_
 refine awp_plain hN rfl ?_
 refine qd rfl ?_
 refine seq_run0 (t_len tyU93 rfl) ?_
 refine qd rfl ?_
 refine awp_block ?_
 obtain ⟨h5, H⟩ := gif H
 refine awp_forL (fun (k3 : Nat) (s : Int) => [(0, .dat (vlst (List.map C_L_string slices1))), (3, .dat (vint s)), (9, .dat (vlst (List.map C_L_string slices1))), (10, .dat (vint (slices1.length : Int))), (11, .dat (vint (k3 : Int)))]) (fun (k3 : Nat) (s : Int) => []) 0 H ⟨rfl, rfl, rfl, rfl, rfl, trivial⟩ trivial (fun _ _ => rfl) ?_ ?_
 ·rintro size2 H
  replace H : slices_Concat_L_string_string__E1 slices1 size2 = some r := H
  unfold slices_Concat_L_string_string__E1 at H
  refine awp_seq ?_
  refine awp_plain hN rfl ?_
  refine seq_run0 (stp_lss rfl rfl) ?_
  refine awp_seq ?_
  refine awp_cond _ rfl (fun h => (lt_t h).elim) (fun h => ?_)
  refine awp_exit ?_
  refine awp_seq ?_
  refine awp_plain hN rfl ?_
  refine qd rfl ?_
  obtain ⟨r7, h8, H⟩ := bnd H
  refine seq_callG (rn [(900, 1)]) [] [(900, _)] (kr_slices_Grow_L_string_string_ size2 r7 h8) ⟨rfl, trivial⟩ ⟨.inl (.inl rfl), .inl (.inl rfl), trivial⟩ trivial rfl ?_
  refine seq_run0 (stp_assign (.row _ _) rfl) ?_
  refine awp_seq ?_
  refine awp_seq ?_
  refine awp_plain hN rfl ?_
  refine qd rfl ?_
  refine seq_run0 (t_len tyU93 rfl) ?_
  refine qd rfl ?_
  refine awp_block ?_
  obtain ⟨h12, H⟩ := gif H
  refine awp_forL (fun (k10 : Nat) (s : (List Bs)) => [(6, .row 1 s.length), (25, .dat (vlst (List.map C_L_string slices1))), (26, .dat (vint (slices1.length : Int))), (27, .dat (vint (k10 : Int)))]) (fun (k10 : Nat) (s : (List Bs)) => [(1, .row 9 1 (List.map C_string s))]) r7 H ⟨rfl, rfl, rfl, rfl, trivial⟩ ⟨rfl, trivial⟩ (fun _ _ => rfl) ?_ ?_
  ·rintro l9 H
   replace H : slices_Concat_L_string_string__E2 l9 = some r := H
   unfold slices_Concat_L_string_string__E2 at H
   refine awp_seq ?_
   refine awp_plain hN rfl ?_
   refine seq_run0 (stp_lss rfl rfl) ?_
   refine awp_seq ?_
   refine awp_cond _ rfl (fun h => (lt_t h).elim) (fun h => ?_)
   refine awp_exit ?_
   refine awp_seq ?_
   refine awp_plain hN rfl ?_
   refine seq_run0 (stp_move (.row _ _) rfl) ?_
   refine seq_run0 (stp_assign (.row _ _) rfl) ?_
   refine awp_ret ?_
   cases H
   exact ⟨trivial, t_slotv rfl rfl, trivial⟩
  ·rintro k10 x13 l9 q11 h14 h15 H hq11
   replace H : slices_Concat_L_string_string__L2 k10 x13 l9 = some q11 := H
   unfold slices_Concat_L_string_string__L2 at H
   refine awp_seq ?_
   refine awp_plain hN rfl ?_
   refine seq_run0 (stp_lss rfl rfl) ?_
   refine awp_seq ?_
   refine awp_cond _ rfl (fun h => ?_) (fun h => (lt_f h14 h).elim)
   refine awp_skip ?_
   refine awp_seq ?_
   refine awp_block ?_
   refine awp_seq ?_
   refine awp_plain hN rfl ?_
   refine seq_run0 (t_idx tyE93 (fun _ => rfl) rfl rfl h15) ?_
   refine seq_run0 (stp_loadE1 tyS31 rfl (map_at h15) rfl) ?_
   refine qe rfl ?_
   refine awp_plain hN rfl ?_
   refine seq_run0 (stp_move (.row _ _) rfl) ?_
   refine qd rfl ?_
   obtain ⟨h16, H⟩ := gif H
   refine seq_run2 (t_app2 tyL31 (fun _ => rfl) rfl rfl rfl h16 rfl) rfl ?_
   refine seq_run0 (stp_assign (.row _ _) rfl) ?_
   refine awp_plain hN rfl ?_
   refine seq_run0 (stp_add rfl rfl (by omega)) ?_
   refine qd rfl ?_
   exact ⟨_, backl H, ⟨rfl, rfl, rfl, rfl, trivial⟩, ⟨rfl, trivial⟩⟩
 ·rintro k3 x6 size2 q4 h17 h18 H hq4
  replace H : slices_Concat_L_string_string__L1 k3 x6 size2 = some q4 := H
  unfold slices_Concat_L_string_string__L1 at H
  refine awp_seq ?_
  refine awp_plain hN rfl ?_
  refine seq_run0 (stp_lss rfl rfl) ?_
  refine awp_seq ?_
  refine awp_cond _ rfl (fun h => ?_) (fun h => (lt_f h17 h).elim)
  refine awp_skip ?_
  refine awp_seq ?_
  refine awp_block ?_
  refine awp_seq ?_
  refine awp_plain hN rfl ?_
  refine seq_run0 (t_idx tyE93 (fun _ => rfl) rfl rfl h18) ?_
  refine seq_run0 (stp_loadE1 tyS31 rfl (map_at h18) rfl) ?_
  refine qe rfl ?_
  refine awp_seq ?_
  refine awp_plain hN rfl ?_
  refine qd rfl ?_
  refine qd rfl ?_
  refine seq_run0 (t_len tyU31 rfl) ?_
  refine seq_run0 (stp_wrap _ rfl rfl (.inl ⟨rfl, rfl⟩)) ?_
  refine qe rfl ?_
  refine awp_seq ?_
  refine awp_plain hN rfl ?_
  refine qd rfl ?_
  refine seq_run0 (stp_lss rfl rfl) ?_
  refine awp_cond _ rfl (fun h19 => ?_) (fun h19 => ?_)
  ·replace H := ift h19 H
   cases H
  ·replace H := iff_ h19 H
   refine awp_skip ?_
   refine awp_plain hN rfl ?_
   refine seq_run0 (stp_add rfl rfl (by omega)) ?_
   refine qd rfl ?_
   exact ⟨_, backl H, ⟨rfl, rfl, rfl, rfl, rfl, trivial⟩, trivial⟩
theorem kr_slices_Clone_L_string_string_ (l r : List Bs) (H : m_slices_Clone l = some r) : FnG Tryz.prog 82 [.dat (vlst (List.map C_string l))] [] (.row 900 r.length) [(900, .row 9 1 (List.map C_string r))] := by
 obtain ⟨hl, rfl⟩ := clone_some H
 refine fnG_of (by kernel_rfl) Tryz.func82 rfl rfl rfl rfl fun X A hN => ?_
 refine awp_nilcase 0 rfl (fun h0 => ?_) ?_
 ·obtain rfl := List.map_eq_nil_iff.1 h0
  refine awp_seq ?_
  refine awp_plain hN rfl ?_
  refine qe rfl ?_
  refine awp_seq ?_
  refine awp_seq ?_
  refine awp_plain hN rfl ?_
  refine qd rfl ?_
  refine seq_run0 (stp_eqnil_t tyU31 rfl) ?_
  refine awp_cond _ rfl (fun h => ?_) (fun h => by cases h)
  refine awp_seq ?_
  refine awp_plain hN rfl ?_
  refine qe rfl ?_
  refine awp_nilrow 2 900 9 1 rfl rfl rfl ?_
  refine awp_ret ?_
  exact ⟨trivial, [(2, .row 900 0)], ⟨rfl, trivial⟩, ⟨rfl, trivial⟩, rfl, .inr ⟨2, rfl, rfl⟩⟩
 ·refine awp_seq ?_
  refine awp_plain hN rfl ?_
  refine qe rfl ?_
  refine awp_seq ?_
  refine awp_seq ?_
  refine awp_plain hN rfl ?_
  refine qd rfl ?_
  refine seq_run0 (stp_eqnil_f tyU31 rfl) ?_
  refine awp_cond _ rfl (fun h => by cases h) (fun h => ?_)
  refine awp_skip ?_
  refine awp_seq ?_
  refine awp_wk 0 (u' := vlst (List.map C_string l)) rfl wk_nn ?_
  refine awp_plain hN rfl ?_
  refine seq_run2 (stp_lit0 900 tyL31) rfl ?_
  refine qd rfl ?_
  refine seq_run2 (t_app2 (C := C_string) (xs := []) tyL31 (fun _ => rfl) rfl rfl rfl (by simpa using hl) rfl) rfl ?_
  refine seq_run0 (stp_assign (.row _ _) rfl) ?_
  refine awp_ret ?_
  exact ⟨trivial, [(2, .row 900 l.length)], ⟨rfl, trivial⟩, ⟨rfl, trivial⟩, rfl, .inr ⟨2, rfl, rfl⟩⟩
theorem k_slices_Clone_L_string_string_ (l r : List Bs) (H : m_slices_Clone l = some r) : Fn Tryz.prog 82 [vlst (List.map C_string l)] (resOf [vlst (List.map C_string r)]) := by
 have h := kr_slices_Clone_L_string_string_ l r H
 rw [← List.length_map (f := C_string)] at h
 exact fn_of_fnG h
theorem k_slices_IndexFunc_L_string_string_ (s1 : (List Bs)) (p1 : Bs → Option (Bool)) (fv1 : Nat) (us1 : List V) (hp1 : ∀ a0 r, p1 a0 = some r → Fn Tryz.prog fv1 ([vstr a0] ++ us1) (resOf [vbool r])) (r : (Int)) (H : m_slices_IndexFunc_L_string_string_ s1 p1 = some r) : Fn Tryz.prog 92 [vlst (List.map C_string s1), vfn fv1 us1] (resOf [vint r]) := by
 refine ⟨by kernel_rfl, pure_of (us := [vint r]) Tryz.func92 rfl rfl rfl rfl fun X hN => ?_⟩
 unfold m_slices_IndexFunc_L_string_string_ at H
 refine awp_seq ?_
 refine awp_plain hN rfl ?_
 refine qe rfl ?_
 refine awp_seq ?_
 refine awp_seq ?_
 refine awp_plain hN rfl ?_
 refine qd rfl ?_
 refine seq_run0 (t_len tyU31 rfl) ?_
 refine qd rfl ?_
 refine awp_block ?_
 obtain ⟨h4, H⟩ := gif H
 refine awp_forL (fun (k2 : Nat) (s : Unit) => [(0, .dat (vlst (List.map C_string s1))), (1, .dat (vfn fv1 us1)), (7, .dat (vint (s1.length : Int))), (8, .dat (vint (k2 : Int)))]) (fun (k2 : Nat) (s : Unit) => []) () H ⟨rfl, rfl, rfl, rfl, trivial⟩ trivial (fun _ _ => rfl) ?_ ?_
 ·rintro ⟨⟩ H
  replace H : slices_IndexFunc_L_string_string__E1 = some r := H
  unfold slices_IndexFunc_L_string_string__E1 at H
  refine awp_seq ?_
  refine awp_plain hN rfl ?_
  refine seq_run0 (stp_lss rfl rfl) ?_
  refine awp_seq ?_
  refine awp_cond _ rfl (fun h => (lt_t h).elim) (fun h => ?_)
  refine awp_exit ?_
  refine awp_seq ?_
  refine awp_plain hN rfl ?_
  refine qe rfl ?_
  refine awp_ret ?_
  cases H
  exact ⟨trivial, .inl rfl, trivial⟩
 ·rintro k2 x5 ⟨⟩ q3 h6 h7 H hq3
  replace H : slices_IndexFunc_L_string_string__L1 p1 k2 x5 = some q3 := H
  unfold slices_IndexFunc_L_string_string__L1 at H
  refine awp_seq ?_
  refine awp_plain hN rfl ?_
  refine seq_run0 (stp_lss rfl rfl) ?_
  refine awp_seq ?_
  refine awp_cond _ rfl (fun h => ?_) (fun h => (lt_f h6 h).elim)
  refine awp_skip ?_
  refine awp_seq ?_
  refine awp_block ?_
  refine awp_seq ?_
  refine awp_plain hN rfl ?_
  refine qd rfl ?_
  refine qe rfl ?_
  refine awp_seq ?_
  refine awp_plain hN rfl ?_
  refine qd rfl ?_
  refine qd rfl ?_
  refine qd rfl ?_
  refine seq_run0 (t_idx tyE31 (fun _ => rfl) rfl rfl h7) ?_
  refine seq_run0 (stp_loadE1 tyS9 rfl (map_at h7) rfl) ?_
  obtain ⟨r8, h9, H⟩ := bnd H
  refine seq_run0 (stp_callv (hp1 x5 r8 h9) rfl ⟨.inl rfl, trivial⟩) ?_
  refine awp_cond _ rfl (fun h10 => ?_) (fun h10 => ?_)
  ·replace H := ift h10 H
   refine awp_seq ?_
   refine awp_plain hN rfl ?_
   refine qd rfl ?_
   refine qe rfl ?_
   refine awp_ret ?_
   replace H := retl H hq3
   cases H
   exact ⟨trivial, .inl rfl, trivial⟩
  ·replace H := iff_ h10 H
   refine awp_skip ?_
   refine awp_plain hN rfl ?_
   refine seq_run0 (stp_add rfl rfl (by omega)) ?_
   refine qd rfl ?_
   exact ⟨_, backl H, ⟨rfl, rfl, rfl, rfl, trivial⟩, trivial⟩
theorem ks_slices_DeleteFunc_L_string_string_ (s1 : (List Bs)) (p1 : Bs → Option (Bool)) (fv1 : Nat) (us1 : List V) (hp1 : ∀ a0 r, p1 a0 = some r → Fn Tryz.prog fv1 ([vstr a0] ++ us1) (resOf [vbool r])) (r : ((List Bs))) (H : m_slices_DeleteFunc_L_string_string_ s1 p1 = some r) : FnG Tryz.prog 48 [.row 0 s1.length, .dat (vfn fv1 us1)] [(0, .row 9 1 (List.map C_string s1))] (.row 900 r.length) [(900, .row 9 1 (List.map C_string r))] := by
 refine fnG_of (by kernel_rfl) Tryz.func48 rfl rfl rfl rfl fun X A hN => ?_
 unfold m_slices_DeleteFunc_L_string_string_ at H
 refine awp_seq ?_
 refine awp_plain hN rfl ?_
 refine qe rfl ?_
 refine awp_seq ?_
 refine awp_plain hN rfl ?_
 refine seq_run0 (stp_move (.row _ _) rfl) ?_
 refine qd rfl ?_
 obtain ⟨r2, h3, H⟩ := bnd H
 refine seq_run1 (stp_callL (id := 0) (es := List.map C_string s1) (k_slices_IndexFunc_L_string_string_ s1 p1 fv1 us1 hp1 r2 h3) ⟨.inr ⟨(congrArg (Slot.row 0) (by rw [List.length_map]) : Slot.row 0 s1.length = _), rfl⟩, .inl (.inl (.inl rfl)), trivial⟩ (fun _ _ _ _ h => h)) rfl ?_
 refine qe rfl ?_
 refine awp_seq ?_
 refine awp_seq ?_
 refine awp_plain hN rfl ?_
 refine qd rfl ?_
 refine seq_run0 (stp_eql rfl rfl) ?_
 refine awp_cond _ rfl (fun h4 => ?_) (fun h4 => ?_)
 ·replace H := ift h4 H
  refine awp_seq ?_
  refine awp_plain hN rfl ?_
  refine seq_run0 (stp_move (.row _ _) rfl) ?_
  refine seq_run0 (stp_assign (.row _ _) rfl) ?_
  refine awp_ren 4 0 900 rfl rfl (by rw [List.length_map]) rfl ?_
  refine awp_ret ?_
  cases H
  exact ⟨trivial, [(4, .row 900 _)], ⟨rfl, trivial⟩, ⟨rfl, trivial⟩, rfl, .inr ⟨4, rfl, rfl⟩⟩
 ·replace H := iff_ h4 H
  refine awp_skip ?_
  refine awp_joinE (ι := Int × (List Bs)) (fun i => [(0, .row 0 i.2.length), (5, .dat (vint i.1))]) (fun i => [(0, .row 9 1 (List.map C_string i.2))]) (fun i => slices_DeleteFunc_L_string_string__J1 i.1 i.2 = some r) (fun i => rfl) ?_ ?_
  ·skip
   refine awp_seq ?_
   refine awp_plain hN rfl ?_
   refine qd rfl ?_
   refine seq_run0 (stp_wrap _ rfl rfl (.inl ⟨rfl, rfl⟩)) ?_
   refine qe rfl ?_
   refine awp_block ?_
   refine awp_iter (fun (s : Int × Int × (List Bs)) => [(0, .row 0 s.2.2.length), (1, .dat (vfn fv1 us1)), (5, .dat (vint s.1)), (6, .dat (vint s.2.1))]) (fun (s : Int × Int × (List Bs)) => [(0, .row 9 1 (List.map C_string s.2.2))]) (r2, wr (r2 + 1), s1) H ⟨rfl, rfl, rfl, rfl, trivial⟩ ⟨rfl, trivial⟩ (fun _ => rfl) ?_
   rintro ⟨i5, j6, l7⟩ q8 H hq8
   replace H : slices_DeleteFunc_L_string_string__L2 p1 i5 j6 l7 = some q8 := H
   unfold slices_DeleteFunc_L_string_string__L2 at H
   refine awp_seq ?_
   refine awp_seq ?_
   refine awp_plain hN rfl ?_
   refine qd rfl ?_
   refine seq_run0 (stp_move (.row _ _) rfl) ?_
   refine seq_run1 (t_lenR tyU31 rfl rfl) rfl ?_
   refine seq_run0 (stp_lss rfl rfl) ?_
   refine awp_cond _ rfl (fun h9 => ?_) (fun h9 => ?_)
   ·replace H := ift h9 H
    refine awp_skip ?_
    refine awp_joinE (ι := Int × (List Bs)) (fun i => [(0, .row 0 i.2.length), (1, .dat (vfn fv1 us1)), (5, .dat (vint i.1)), (6, .dat (vint j6))]) (fun i => [(0, .row 9 1 (List.map C_string i.2))]) (fun i => slices_DeleteFunc_L_string_string__J3 j6 i.1 i.2 = some q8) (fun i => rfl) ?_ ?_
    ·skip
     refine awp_block ?_
     refine awp_seq ?_
     refine awp_plain hN rfl ?_
     refine seq_run0 (stp_move (.row _ _) rfl) ?_
     refine qd rfl ?_
     obtain ⟨x10, h11, H⟩ := bnd H
     refine seq_run1 (t_idxRI tyE31 rfl rfl rfl h11) rfl ?_
     refine seq_run1 (t_loadR1 tyS9 rfl rfl (at_some h11).2 rfl) rfl ?_
     refine qe rfl ?_
     refine awp_seq ?_
     refine awp_plain hN rfl ?_
     refine qd rfl ?_
     refine qd rfl ?_
     obtain ⟨r12, h13, H⟩ := bnd H
     refine seq_run0 (stp_callv (hp1 x10 r12 h13) rfl ⟨.inl rfl, trivial⟩) ?_
     refine seq_run0 (stp_not rfl) ?_
     refine awp_cond _ rfl (fun h14 => ?_) (fun h14 => ?_)
     ·replace H := ift h14 H
      refine awp_seq ?_
      refine awp_plain hN rfl ?_
      refine seq_run0 (stp_move (.row _ _) rfl) ?_
      refine qd rfl ?_
      refine qd rfl ?_
      obtain ⟨x15, h16, H⟩ := bnd H
      refine seq_run1 (t_idxRI tyE31 rfl rfl rfl h16) rfl ?_
      refine seq_run2 (t_storeR x10 tyS9 rfl rfl rfl rfl (at_some h16).2 rfl rfl) rfl ?_
      refine awp_plain hN rfl ?_
      refine qd rfl ?_
      refine seq_run0 (stp_wrap _ rfl rfl (.inl ⟨rfl, rfl⟩)) ?_
      refine qe rfl ?_
      exact ⟨(wr (i5 + 1), (l7.set i5.toNat x10)), H, ⟨congrArg (Slot.row 0) (by simp), rfl, rfl, rfl, trivial⟩, ⟨rfl, trivial⟩⟩
     ·replace H := iff_ h14 H
      refine awp_skip ?_
      exact ⟨(i5, l7), H, ⟨rfl, rfl, rfl, rfl, trivial⟩, ⟨rfl, trivial⟩⟩
    ·rintro ⟨i17, s18⟩ H
     replace H : slices_DeleteFunc_L_string_string__J3 j6 i17 s18 = some q8 := H
     unfold slices_DeleteFunc_L_string_string__J3 at H
     refine awp_plain hN rfl ?_
     refine qd rfl ?_
     refine seq_run0 (stp_wrap _ rfl rfl (.inl ⟨rfl, rfl⟩)) ?_
     refine qe rfl ?_
     exact ⟨_, backl H, ⟨rfl, rfl, rfl, rfl, trivial⟩, ⟨rfl, trivial⟩⟩
   ·replace H := iff_ h9 H
    refine awp_exit ?_
    replace H := outl H hq8
    exact ⟨(i5, l7), H, ⟨rfl, rfl, trivial⟩, ⟨rfl, trivial⟩⟩
  ·rintro ⟨i19, s20⟩ H
   replace H : slices_DeleteFunc_L_string_string__J1 i19 s20 = some r := H
   unfold slices_DeleteFunc_L_string_string__J1 at H
   refine awp_seq ?_
   refine awp_plain hN rfl ?_
   refine seq_run0 (stp_move (.row _ _) rfl) ?_
   refine qd rfl ?_
   obtain ⟨h21, H⟩ := gif H
   refine seq_run1 (t_rsub (C := C_string) tyE31 rfl rfl rfl h21) rfl ?_
   refine seq_run2 (t_clear (C := C_string) [] tyU31 tyZ9 rfl rfl rfl rfl rfl h21) rfl ?_
   refine awp_seq ?_
   refine awp_plain hN rfl ?_
   refine seq_run0 (stp_move (.row _ _) rfl) ?_
   refine qd rfl ?_
   obtain ⟨h22, H⟩ := gif H
   refine seq_run3 (t_cut (C := C_string) 1 tyE31 rfl (clr_len [] h21) rfl h22) rfl rfl ?_
   refine seq_run0 (stp_assign (.row _ _) rfl) ?_
   refine awp_ren 4 1 900 rfl rfl (by rw [List.length_map]; exact (cut_len h22)) rfl ?_
   refine awp_ret ?_
   cases H
   exact ⟨trivial, [(4, .row 900 _)], ⟨rfl, trivial⟩, ⟨rfl, trivial⟩, rfl, .inr ⟨4, rfl, congrArg (Slot.row 900) (by simp <;> omega)⟩⟩
theorem k_message_joined_1 (v1 : Bs) (r : (Bool)) (H : m_message_joined_1 v1 = some r) : Fn Tryz.prog 83 [vstr v1] (resOf [vbool r]) := by
 refine ⟨by kernel_rfl, pure_of (us := [vbool r]) Tryz.func83 rfl rfl rfl rfl fun X hN => ?_⟩
 unfold m_message_joined_1 at H
 refine awp_seq ?_
 refine awp_plain hN rfl ?_
 refine qe rfl ?_
 refine awp_seq ?_
 refine awp_plain hN rfl ?_
 refine qd rfl ?_
 refine seq_run0 (stp_seql rfl rfl) ?_
 refine qe rfl ?_
 refine awp_ret ?_
 cases H
 exact ⟨trivial, .inl rfl, trivial⟩
theorem k_message_joined (l1 : (List Bs)) (s2 : Bs) (r : (Bs)) (H : m_message_joined l1 s2 = some r) : Fn Tryz.prog 34 [vlst (List.map C_string l1), vstr s2] (resOf [vstr r]) := by
 refine ⟨by kernel_rfl, pure_of (us := [vstr r]) Tryz.func34 rfl rfl rfl rfl fun X hN => ?_⟩
 unfold m_message_joined at H
 refine awp_seq ?_
 refine awp_plain hN rfl ?_
 refine qe rfl ?_
 refine awp_seq ?_
 refine awp_plain hN rfl ?_
 refine qd rfl ?_
 obtain ⟨r3, h4, H⟩ := bnd H
 refine seq_callG (rn [(900, 1)]) [] [(900, _)] (kr_slices_Clone_L_string_string_ l1 r3 h4) ⟨rfl, trivial⟩ ⟨.inl (.inl rfl), trivial⟩ trivial rfl ?_
 refine qd rfl ?_
 refine seq_run0 (stp_dat (u' := vlst (List.map C_string [s2])) (stp_lit [[_]] tyL31 ⟨rfl, .inl ⟨_, rfl, rfl, rfl⟩, rfl, trivial⟩ rfl rfl) rfl) ?_
 obtain ⟨h5, H⟩ := gif H
 refine seq_run2 (t_app tyL31 (fun _ => rfl) rfl rfl rfl ⟨by simp, by first | (simp; done) | simpa using h5⟩ rfl) rfl ?_
 obtain ⟨r6, h7, H⟩ := bnd H
 refine seq_callG (rn [(0, 1), (900, 2)]) [(0, _, _, none)] [(900, _)] (ks_slices_DeleteFunc_L_string_string_ (r3 ++ [s2]) (fun (a0 : Bs) => m_message_joined_1 a0) 83 [] (fun a0 r h => k_message_joined_1 a0 r h) r6 h7) ⟨rfl, rfl, trivial⟩ ⟨.inl (.inl rfl), .inr ⟨_, rfl, rfl⟩, trivial⟩ ⟨⟨⟨rfl, rfl, rfl⟩, trivial⟩, trivial⟩ rfl ?_
 refine seq_run0 (stp_assign (.row _ _) rfl) ?_
 refine awp_seq ?_
 refine t_freeze 0 2 rfl rfl rfl ?_
 refine awp_plain hN rfl ?_
 refine qd rfl ?_
 obtain ⟨r8, h9, H⟩ := bnd H
 refine seq_run0 (stp_call (k_strings_Join r6 [44, 32] r8 h9) ⟨.inl rfl, .inl rfl, trivial⟩) ?_
 refine qe rfl ?_
 refine awp_ret ?_
 cases H
 exact ⟨trivial, .inl rfl, trivial⟩
theorem k_message_set (l1 : (List S_api_Header)) (name2 : Bs) (value3 : Bs) (r : ((List S_api_Header))) (H : m_message_set l1 name2 value3 = some r) : Fn Tryz.prog 35 [vlst (List.map C_api_Header l1), vstr name2, vstr value3] (resOf [vlst (List.map C_api_Header r)]) := by
 refine ⟨by kernel_rfl, pure_of (us := [vlst (List.map C_api_Header r)]) Tryz.func35 rfl rfl rfl rfl fun X hN => ?_⟩
 unfold m_message_set at H
 refine awp_seq ?_
 refine awp_plain hN rfl ?_
 refine qe rfl ?_
 refine awp_seq ?_
 refine awp_plain hN rfl ?_
 refine qe rfl ?_
 refine awp_seq ?_
 refine awp_plain hN rfl ?_
 refine qe rfl ?_
 refine awp_seq ?_
 refine awp_seq ?_
 refine awp_plain hN rfl ?_
 refine qd rfl ?_
 refine seq_run0 (t_len tyU26 rfl) ?_
 refine qd rfl ?_
 refine awp_block ?_
 refine awp_nilrow 7 1 54 2 rfl rfl rfl ?_
 obtain ⟨h8, H⟩ := gif H
 refine awp_forL (fun (k6 : Nat) (s : Bool × (List S_api_Header)) => [(1, .dat (vstr name2)), (2, .dat (vstr value3)), (7, .row 1 s.2.length), (8, .dat (vbool s.1)), (11, .dat (vlst (List.map C_api_Header l1))), (12, .dat (vint (l1.length : Int))), (13, .dat (vint (k6 : Int)))]) (fun (k6 : Nat) (s : Bool × (List S_api_Header)) => [(1, .row 54 2 (List.map C_api_Header s.2))]) (false, []) H ⟨rfl, rfl, rfl, rfl, rfl, rfl, rfl, trivial⟩ ⟨rfl, trivial⟩ (fun _ _ => rfl) ?_ ?_
 ·rintro ⟨done4, l5⟩ H
  replace H : message_set_E1 name2 value3 done4 l5 = some r := H
  unfold message_set_E1 at H
  refine awp_seq ?_
  refine awp_plain hN rfl ?_
  refine seq_run0 (stp_lss rfl rfl) ?_
  refine awp_seq ?_
  refine awp_cond _ rfl (fun h => (lt_t h).elim) (fun h => ?_)
  refine awp_exit ?_
  refine awp_joinE (ι := (List S_api_Header)) (fun i => [(7, .row 1 i.length)]) (fun i => [(1, .row 54 2 (List.map C_api_Header i))]) (fun i => message_set_J2 i = some r) (fun i => rfl) ?_ ?_
  ·skip
   refine awp_seq ?_
   refine awp_plain hN rfl ?_
   refine qd rfl ?_
   refine seq_run0 (stp_not rfl) ?_
   refine awp_cond _ rfl (fun h10 => ?_) (fun h10 => ?_)
   ·replace H := ift h10 H
    refine awp_plain hN rfl ?_
    refine seq_run0 (stp_move (.row _ _) rfl) ?_
    refine qd rfl ?_
    refine qd rfl ?_
    refine seq_run0 (stp_dat (u' := vagg (C_api_Header (S_api_Header.mk name2 value3))) (stp_build [(0, [vstr name2]), (1, [vstr value3])] tyZ54 tyP54 rfl ⟨rfl, .inl ⟨_, rfl, rfl, rfl⟩, rfl, rfl, .inl ⟨_, rfl, rfl, rfl⟩, rfl, trivial⟩) rfl) ?_
    refine seq_run0 (stp_dat (u' := vlst (List.map C_api_Header [(S_api_Header.mk name2 value3)])) (stp_lit [_] tyL26 ⟨rfl, .inr rfl, rfl, trivial⟩ rfl rfl) rfl) ?_
    obtain ⟨h11, H⟩ := gif H
    refine seq_run2 (t_app tyL26 (fun _ => rfl) rfl rfl rfl ⟨by simp, by first | (simp; done) | simpa using h11⟩ rfl) rfl ?_
    refine seq_run0 (stp_assign (.row _ _) rfl) ?_
    exact ⟨(l5 ++ [(S_api_Header.mk name2 value3)]), H, ⟨rfl, trivial⟩, ⟨rfl, trivial⟩⟩
   ·replace H := iff_ h10 H
    refine awp_skip ?_
    exact ⟨l5, H, ⟨rfl, trivial⟩, ⟨rfl, trivial⟩⟩
  ·rintro out12 H
   replace H : message_set_J2 out12 = some r := H
   unfold message_set_J2 at H
   refine awp_seq ?_
   refine awp_plain hN rfl ?_
   refine seq_run0 (stp_move (.row _ _) rfl) ?_
   refine seq_run0 (stp_assign (.row _ _) rfl) ?_
   refine awp_ret ?_
   cases H
   exact ⟨trivial, t_slotv rfl rfl, trivial⟩
 ·rintro k6 x9 ⟨done4, l5⟩ q7 h13 h14 H hq7
  replace H : message_set_L1 name2 value3 k6 x9 done4 l5 = some q7 := H
  unfold message_set_L1 at H
  refine awp_seq ?_
  refine awp_plain hN rfl ?_
  refine seq_run0 (stp_lss rfl rfl) ?_
  refine awp_seq ?_
  refine awp_cond _ rfl (fun h => ?_) (fun h => (lt_f h13 h).elim)
  refine awp_skip ?_
  refine awp_joinE (ι := Bool × (List S_api_Header)) (fun i => [(1, .dat (vstr name2)), (2, .dat (vstr value3)), (7, .row 1 i.2.length), (8, .dat (vbool i.1)), (11, .dat (vlst (List.map C_api_Header l1))), (12, .dat (vint (l1.length : Int))), (13, .dat (vint (k6 : Int)))]) (fun i => [(1, .row 54 2 (List.map C_api_Header i.2))]) (fun i => message_set_J3 i.1 i.2 = some q7) (fun i => rfl) ?_ ?_
  ·skip
   refine awp_block ?_
   refine awp_seq ?_
   refine awp_plain hN rfl ?_
   refine seq_run0 (t_idx tyE26 (fun _ => rfl) rfl rfl h14) ?_
   refine seq_run0 (stp_loadEA tyS54 rfl (map_at h14) rfl) ?_
   refine seq_run2 (stp_alloc 2 tyZ54 rfl) rfl ?_
   refine seq_run2 (stp_storeW tyS54 rfl rfl rfl rfl) rfl ?_
   refine awp_block ?_
   refine awp_seq ?_
   refine awp_plain hN rfl ?_
   refine seq_run1 (stp_loadA tyS54 rfl rfl rfl) rfl ?_
   refine qd rfl ?_
   obtain ⟨r15, h16, H⟩ := bnd H
   refine seq_run0 (stp_call (k_message_isNamed x9 name2 r15 h16) ⟨.inl rfl, .inl rfl, trivial⟩) ?_
   refine seq_run0 (stp_not rfl) ?_
   refine qe rfl ?_
   refine awp_cond _ rfl (fun h17 => ?_) (fun h17 => ?_)
   ·replace H := ift h17 H
    refine awp_plain hN rfl ?_
    refine seq_run0 (stp_move (.row _ _) rfl) ?_
    refine seq_run1 (stp_loadA tyS54 rfl rfl rfl) rfl ?_
    refine seq_run0 (stp_dat (u' := vlst (List.map C_api_Header [x9])) (stp_lit [_] tyL26 ⟨rfl, .inr rfl, rfl, trivial⟩ rfl rfl) rfl) ?_
    obtain ⟨h18, H⟩ := gif H
    refine seq_run2 (t_app tyL26 (fun _ => rfl) rfl rfl rfl ⟨by simp, by first | (simp; done) | simpa using h18⟩ rfl) rfl ?_
    refine seq_run0 (stp_assign (.row _ _) rfl) ?_
    exact ⟨(done4, (l5 ++ [x9])), H, ⟨rfl, rfl, rfl, rfl, rfl, rfl, rfl, trivial⟩, ⟨rfl, trivial⟩⟩
   ·replace H := iff_ h17 H
    refine awp_seq ?_
    refine awp_plain hN rfl ?_
    refine qd rfl ?_
    refine seq_run0 (stp_not rfl) ?_
    refine qe rfl ?_
    refine awp_cond _ rfl (fun h19 => ?_) (fun h19 => ?_)
    ·replace H := ift h19 H
     refine awp_seq ?_
     refine awp_plain hN rfl ?_
     refine seq_run0 (stp_move (.row _ _) rfl) ?_
     refine seq_run0 (stp_fldP tyF54_0 rfl) ?_
     refine seq_run1 (stp_load1 tyS9 rfl rfl) rfl ?_
     refine qd rfl ?_
     refine seq_run0 (stp_dat (u' := vagg (C_api_Header (S_api_Header.mk x9.Name value3))) (stp_build [(0, [vstr x9.Name]), (1, [vstr value3])] tyZ54 tyP54 rfl ⟨rfl, .inl ⟨_, rfl, rfl, rfl⟩, rfl, rfl, .inl ⟨_, rfl, rfl, rfl⟩, rfl, trivial⟩) rfl) ?_
     refine seq_run0 (stp_dat (u' := vlst (List.map C_api_Header [(S_api_Header.mk x9.Name value3)])) (stp_lit [_] tyL26 ⟨rfl, .inr rfl, rfl, trivial⟩ rfl rfl) rfl) ?_
     obtain ⟨h20, H⟩ := gif H
     refine seq_run2 (t_app tyL26 (fun _ => rfl) rfl rfl rfl ⟨by simp, by first | (simp; done) | simpa using h20⟩ rfl) rfl ?_
     refine seq_run0 (stp_assign (.row _ _) rfl) ?_
     refine awp_plain hN rfl ?_
     refine qe rfl ?_
     exact ⟨(true, (l5 ++ [(S_api_Header.mk x9.Name value3)])), H, ⟨rfl, rfl, rfl, rfl, rfl, rfl, rfl, trivial⟩, ⟨rfl, trivial⟩⟩
    ·replace H := iff_ h19 H
     refine awp_skip ?_
     exact ⟨(done4, l5), H, ⟨rfl, rfl, rfl, rfl, rfl, rfl, rfl, trivial⟩, ⟨rfl, trivial⟩⟩
  ·rintro ⟨done21, out22⟩ H
   replace H : message_set_J3 done21 out22 = some q7 := H
   unfold message_set_J3 at H
   refine awp_plain hN rfl ?_
   refine seq_run0 (stp_add rfl rfl (by omega)) ?_
   refine qd rfl ?_
   exact ⟨_, backl H, ⟨rfl, rfl, rfl, rfl, rfl, rfl, rfl, trivial⟩, ⟨rfl, trivial⟩⟩
theorem k_slices_IndexFunc_L_api_Header_api_Header_ (s1 : (List S_api_Header)) (p1 : S_api_Header → Option (Bool)) (fv1 : Nat) (us1 : List V) (hp1 : ∀ a0 r, p1 a0 = some r → Fn Tryz.prog fv1 ([vagg (C_api_Header a0)] ++ us1) (resOf [vbool r])) (r : (Int)) (H : m_slices_IndexFunc_L_api_Header_api_Header_ s1 p1 = some r) : Fn Tryz.prog 84 [vlst (List.map C_api_Header s1), vfn fv1 us1] (resOf [vint r]) := by
 refine ⟨by kernel_rfl, pure_of (us := [vint r]) Tryz.func84 rfl rfl rfl rfl fun X hN => ?_⟩
 unfold m_slices_IndexFunc_L_api_Header_api_Header_ at H
 refine awp_seq ?_
 refine awp_plain hN rfl ?_
 refine qe rfl ?_
 refine awp_seq ?_
 refine awp_seq ?_
 refine awp_plain hN rfl ?_
 refine qd rfl ?_
 refine seq_run0 (t_len tyU26 rfl) ?_
 refine qd rfl ?_
 refine awp_block ?_
 obtain ⟨h4, H⟩ := gif H
 refine awp_forL (fun (k2 : Nat) (s : Unit) => [(0, .dat (vlst (List.map C_api_Header s1))), (1, .dat (vfn fv1 us1)), (7, .dat (vint (s1.length : Int))), (8, .dat (vint (k2 : Int)))]) (fun (k2 : Nat) (s : Unit) => []) () H ⟨rfl, rfl, rfl, rfl, trivial⟩ trivial (fun _ _ => rfl) ?_ ?_
 ·rintro ⟨⟩ H
  replace H : slices_IndexFunc_L_api_Header_api_Header__E1 = some r := H
  unfold slices_IndexFunc_L_api_Header_api_Header__E1 at H
  refine awp_seq ?_
  refine awp_plain hN rfl ?_
  refine seq_run0 (stp_lss rfl rfl) ?_
  refine awp_seq ?_
  refine awp_cond _ rfl (fun h => (lt_t h).elim) (fun h => ?_)
  refine awp_exit ?_
  refine awp_seq ?_
  refine awp_plain hN rfl ?_
  refine qe rfl ?_
  refine awp_ret ?_
  cases H
  exact ⟨trivial, .inl rfl, trivial⟩
 ·rintro k2 x5 ⟨⟩ q3 h6 h7 H hq3
  replace H : slices_IndexFunc_L_api_Header_api_Header__L1 p1 k2 x5 = some q3 := H
  unfold slices_IndexFunc_L_api_Header_api_Header__L1 at H
  refine awp_seq ?_
  refine awp_plain hN rfl ?_
  refine seq_run0 (stp_lss rfl rfl) ?_
  refine awp_seq ?_
  refine awp_cond _ rfl (fun h => ?_) (fun h => (lt_f h6 h).elim)
  refine awp_skip ?_
  refine awp_seq ?_
  refine awp_block ?_
  refine awp_seq ?_
  refine awp_plain hN rfl ?_
  refine qd rfl ?_
  refine qe rfl ?_
  refine awp_seq ?_
  refine awp_plain hN rfl ?_
  refine qd rfl ?_
  refine qd rfl ?_
  refine qd rfl ?_
  refine seq_run0 (t_idx tyE26 (fun _ => rfl) rfl rfl h7) ?_
  refine seq_run0 (stp_loadEA tyS54 rfl (map_at h7) rfl) ?_
  obtain ⟨r8, h9, H⟩ := bnd H
  refine seq_run0 (stp_callv (hp1 x5 r8 h9) rfl ⟨.inl rfl, trivial⟩) ?_
  refine awp_cond _ rfl (fun h10 => ?_) (fun h10 => ?_)
  ·replace H := ift h10 H
   refine awp_seq ?_
   refine awp_plain hN rfl ?_
   refine qd rfl ?_
   refine qe rfl ?_
   refine awp_ret ?_
   replace H := retl H hq3
   cases H
   exact ⟨trivial, .inl rfl, trivial⟩
  ·replace H := iff_ h10 H
   refine awp_skip ?_
   refine awp_plain hN rfl ?_
   refine seq_run0 (stp_add rfl rfl (by omega)) ?_
   refine qd rfl ?_
   exact ⟨_, backl H, ⟨rfl, rfl, rfl, rfl, trivial⟩, trivial⟩
theorem k_slices_ContainsFunc_L_api_Header_api_Header_ (s1 : (List S_api_Header)) (p1 : S_api_Header → Option (Bool)) (fv1 : Nat) (us1 : List V) (hp1 : ∀ a0 r, p1 a0 = some r → Fn Tryz.prog fv1 ([vagg (C_api_Header a0)] ++ us1) (resOf [vbool r])) (r : (Bool)) (H : m_slices_ContainsFunc_L_api_Header_api_Header_ s1 p1 = some r) : Fn Tryz.prog 36 [vlst (List.map C_api_Header s1), vfn fv1 us1] (resOf [vbool r]) := by
 refine ⟨by kernel_rfl, pure_of (us := [vbool r]) Tryz.func36 rfl rfl rfl rfl fun X hN => ?_⟩
 unfold m_slices_ContainsFunc_L_api_Header_api_Header_ at H
 refine awp_seq ?_
 refine awp_plain hN rfl ?_
 refine qe rfl ?_
 refine awp_seq ?_
 refine awp_plain hN rfl ?_
 refine qd rfl ?_
 refine qd rfl ?_
 obtain ⟨r2, h3, H⟩ := bnd H
 refine seq_run0 (stp_call (k_slices_IndexFunc_L_api_Header_api_Header_ s1 p1 fv1 us1 hp1 r2 h3) ⟨.inl rfl, .inl rfl, trivial⟩) ?_
 refine seq_run0 (stp_geq rfl rfl) ?_
 refine qe rfl ?_
 refine awp_ret ?_
 cases H
 exact ⟨trivial, .inl rfl, trivial⟩
theorem k_message_Forward_1 (h1 : S_api_Header) (r : (Bool)) (H : m_message_Forward_1 h1 = some r) : Fn Tryz.prog 37 [vagg (C_api_Header h1)] (resOf [vbool r]) := by
 refine ⟨by kernel_rfl, pure_of (us := [vbool r]) Tryz.func37 rfl rfl rfl rfl fun X hN => ?_⟩
 unfold m_message_Forward_1 at H
 refine awp_seq ?_
 refine awp_plain hN rfl ?_
 refine seq_run2 (stp_boxA 1 rfl) rfl ?_
 refine qe rfl ?_
 refine awp_seq ?_
 refine awp_plain hN rfl ?_
 refine seq_run0 (stp_fldP tyF54_1 rfl) ?_
 refine seq_run1 (stp_load1 tyS9 rfl rfl) rfl ?_
 refine seq_run0 (stp_len_str tyU9 rfl) ?_
 refine seq_run0 (stp_gtr rfl rfl) ?_
 refine qe rfl ?_
 refine awp_ret ?_
 cases H
 exact ⟨trivial, .inl rfl, trivial⟩
theorem ks_slices_DeleteFunc_L_api_Header_api_Header_ (s1 : (List S_api_Header)) (p1 : S_api_Header → Option (Bool)) (fv1 : Nat) (us1 : List V) (hp1 : ∀ a0 r, p1 a0 = some r → Fn Tryz.prog fv1 ([vagg (C_api_Header a0)] ++ us1) (resOf [vbool r])) (r : ((List S_api_Header))) (H : m_slices_DeleteFunc_L_api_Header_api_Header_ s1 p1 = some r) : FnG Tryz.prog 42 [.row 0 s1.length, .dat (vfn fv1 us1)] [(0, .row 54 2 (List.map C_api_Header s1))] (.row 900 r.length) [(900, .row 54 2 (List.map C_api_Header r))] := by
 refine fnG_of (by kernel_rfl) Tryz.func42 rfl rfl rfl rfl fun X A hN => ?_
 unfold m_slices_DeleteFunc_L_api_Header_api_Header_ at H
 refine awp_seq ?_
 refine awp_plain hN rfl ?_
 refine qe rfl ?_
 refine awp_seq ?_
 refine awp_plain hN rfl ?_
 refine seq_run0 (stp_move (.row _ _) rfl) ?_
 refine qd rfl ?_
 obtain ⟨r2, h3, H⟩ := bnd H
 refine seq_run1 (stp_callL (id := 0) (es := List.map C_api_Header s1) (k_slices_IndexFunc_L_api_Header_api_Header_ s1 p1 fv1 us1 hp1 r2 h3) ⟨.inr ⟨(congrArg (Slot.row 0) (by rw [List.length_map]) : Slot.row 0 s1.length = _), rfl⟩, .inl (.inl (.inl rfl)), trivial⟩ (fun _ _ _ _ h => h)) rfl ?_
 refine qe rfl ?_
 refine awp_seq ?_
 refine awp_seq ?_
 refine awp_plain hN rfl ?_
 refine qd rfl ?_
 refine seq_run0 (stp_eql rfl rfl) ?_
 refine awp_cond _ rfl (fun h4 => ?_) (fun h4 => ?_)
 ·replace H := ift h4 H
  refine awp_seq ?_
  refine awp_plain hN rfl ?_
  refine seq_run0 (stp_move (.row _ _) rfl) ?_
  refine seq_run0 (stp_assign (.row _ _) rfl) ?_
  refine awp_ren 4 0 900 rfl rfl (by rw [List.length_map]) rfl ?_
  refine awp_ret ?_
  cases H
  exact ⟨trivial, [(4, .row 900 _)], ⟨rfl, trivial⟩, ⟨rfl, trivial⟩, rfl, .inr ⟨4, rfl, rfl⟩⟩
 ·replace H := iff_ h4 H
  refine awp_skip ?_
  refine awp_joinE (ι := Int × (List S_api_Header)) (fun i => [(0, .row 0 i.2.length), (5, .dat (vint i.1))]) (fun i => [(0, .row 54 2 (List.map C_api_Header i.2))]) (fun i => slices_DeleteFunc_L_api_Header_api_Header__J1 i.1 i.2 = some r) (fun i => rfl) ?_ ?_
  ·skip
   refine awp_seq ?_
   refine awp_plain hN rfl ?_
   refine qd rfl ?_
   refine seq_run0 (stp_wrap _ rfl rfl (.inl ⟨rfl, rfl⟩)) ?_
   refine qe rfl ?_
   refine awp_block ?_
   refine awp_iter (fun (s : Int × Int × (List S_api_Header)) => [(0, .row 0 s.2.2.length), (1, .dat (vfn fv1 us1)), (5, .dat (vint s.1)), (6, .dat (vint s.2.1))]) (fun (s : Int × Int × (List S_api_Header)) => [(0, .row 54 2 (List.map C_api_Header s.2.2))]) (r2, wr (r2 + 1), s1) H ⟨rfl, rfl, rfl, rfl, trivial⟩ ⟨rfl, trivial⟩ (fun _ => rfl) ?_
   rintro ⟨i5, j6, l7⟩ q8 H hq8
   replace H : slices_DeleteFunc_L_api_Header_api_Header__L2 p1 i5 j6 l7 = some q8 := H
   unfold slices_DeleteFunc_L_api_Header_api_Header__L2 at H
   refine awp_seq ?_
   refine awp_seq ?_
   refine awp_plain hN rfl ?_
   refine qd rfl ?_
   refine seq_run0 (stp_move (.row _ _) rfl) ?_
   refine seq_run1 (t_lenR tyU26 rfl rfl) rfl ?_
   refine seq_run0 (stp_lss rfl rfl) ?_
   refine awp_cond _ rfl (fun h9 => ?_) (fun h9 => ?_)
   ·replace H := ift h9 H
    refine awp_skip ?_
    refine awp_joinE (ι := Int × (List S_api_Header)) (fun i => [(0, .row 0 i.2.length), (1, .dat (vfn fv1 us1)), (5, .dat (vint i.1)), (6, .dat (vint j6))]) (fun i => [(0, .row 54 2 (List.map C_api_Header i.2))]) (fun i => slices_DeleteFunc_L_api_Header_api_Header__J3 j6 i.1 i.2 = some q8) (fun i => rfl) ?_ ?_
    ·skip
     refine awp_block ?_
     refine awp_seq ?_
     refine awp_plain hN rfl ?_
     refine seq_run0 (stp_move (.row _ _) rfl) ?_
     refine qd rfl ?_
     obtain ⟨x10, h11, H⟩ := bnd H
     refine seq_run1 (t_idxRI tyE26 rfl rfl rfl h11) rfl ?_
     refine seq_run1 (t_loadRA tyS54 rfl rfl (at_some h11).2 rfl) rfl ?_
     refine seq_run2 (stp_alloc 1 tyZ54 rfl) rfl ?_
     refine seq_run2 (stp_storeW tyS54 rfl rfl rfl rfl) rfl ?_
     refine awp_seq ?_
     refine awp_plain hN rfl ?_
     refine qd rfl ?_
     refine seq_run1 (stp_loadA tyS54 rfl rfl rfl) rfl ?_
     obtain ⟨r12, h13, H⟩ := bnd H
     refine seq_run0 (stp_callv (hp1 x10 r12 h13) rfl ⟨.inl rfl, trivial⟩) ?_
     refine seq_run0 (stp_not rfl) ?_
     refine awp_cond _ rfl (fun h14 => ?_) (fun h14 => ?_)
     ·replace H := ift h14 H
      refine awp_seq ?_
      refine awp_plain hN rfl ?_
      refine seq_run0 (stp_move (.row _ _) rfl) ?_
      refine qd rfl ?_
      refine seq_run1 (stp_loadA tyS54 rfl rfl rfl) rfl ?_
      obtain ⟨x15, h16, H⟩ := bnd H
      refine seq_run1 (t_idxRI tyE26 rfl rfl rfl h16) rfl ?_
      refine seq_run2 (t_storeRA (C := C_api_Header) tyS54 rfl rfl rfl (at_lt (at_some h16).2) rfl rfl) rfl ?_
      refine awp_plain hN rfl ?_
      refine qd rfl ?_
      refine seq_run0 (stp_wrap _ rfl rfl (.inl ⟨rfl, rfl⟩)) ?_
      refine qe rfl ?_
      exact ⟨(wr (i5 + 1), (l7.set i5.toNat x10)), H, ⟨congrArg (Slot.row 0) (by simp), rfl, rfl, rfl, trivial⟩, ⟨rfl, trivial⟩⟩
     ·replace H := iff_ h14 H
      refine awp_skip ?_
      exact ⟨(i5, l7), H, ⟨rfl, rfl, rfl, rfl, trivial⟩, ⟨rfl, trivial⟩⟩
    ·rintro ⟨i17, s18⟩ H
     replace H : slices_DeleteFunc_L_api_Header_api_Header__J3 j6 i17 s18 = some q8 := H
     unfold slices_DeleteFunc_L_api_Header_api_Header__J3 at H
     refine awp_plain hN rfl ?_
     refine qd rfl ?_
     refine seq_run0 (stp_wrap _ rfl rfl (.inl ⟨rfl, rfl⟩)) ?_
     refine qe rfl ?_
     exact ⟨_, backl H, ⟨rfl, rfl, rfl, rfl, trivial⟩, ⟨rfl, trivial⟩⟩
   ·replace H := iff_ h9 H
    refine awp_exit ?_
    replace H := outl H hq8
    exact ⟨(i5, l7), H, ⟨rfl, rfl, trivial⟩, ⟨rfl, trivial⟩⟩
  ·rintro ⟨i19, s20⟩ H
   replace H : slices_DeleteFunc_L_api_Header_api_Header__J1 i19 s20 = some r := H
   unfold slices_DeleteFunc_L_api_Header_api_Header__J1 at H
   refine awp_seq ?_
   refine awp_plain hN rfl ?_
   refine seq_run0 (stp_move (.row _ _) rfl) ?_
   refine qd rfl ?_
   obtain ⟨h21, H⟩ := gif H
   refine seq_run1 (t_rsub (C := C_api_Header) tyE26 rfl rfl rfl h21) rfl ?_
   refine seq_run2 (t_clear (C := C_api_Header) (S_api_Header.mk [] []) tyU26 tyZ54 rfl rfl rfl rfl rfl h21) rfl ?_
   refine awp_seq ?_
   refine awp_plain hN rfl ?_
   refine seq_run0 (stp_move (.row _ _) rfl) ?_
   refine qd rfl ?_
   obtain ⟨h22, H⟩ := gif H
   refine seq_run3 (t_cut (C := C_api_Header) 2 tyE26 rfl (clr_len (S_api_Header.mk [] []) h21) rfl h22) rfl rfl ?_
   refine seq_run0 (stp_assign (.row _ _) rfl) ?_
   refine awp_ren 4 2 900 rfl rfl (by rw [List.length_map]; exact (cut_len h22)) rfl ?_
   refine awp_ret ?_
   cases H
   exact ⟨trivial, [(4, .row 900 _)], ⟨rfl, trivial⟩, ⟨rfl, trivial⟩, rfl, .inr ⟨4, rfl, congrArg (Slot.row 900) (by simp <;> omega)⟩⟩
theorem k_message_without_1 (h1 : S_api_Header) (c2 : Bs) (r : (Bool)) (H : m_message_without_1 h1 c2 = some r) : Fn Tryz.prog 81 [vagg (C_api_Header h1), vcell [[vstr c2]] 0 0] (resOf [vbool r]) := by
 refine ⟨by kernel_rfl, pure_of (us := [vbool r]) Tryz.func81 rfl rfl rfl rfl fun X hN => ?_⟩
 unfold m_message_without_1 at H
 refine awp_seq ?_
 refine awp_plain hN rfl ?_
 refine seq_run2 (stp_boxA 1 rfl) rfl ?_
 refine qe rfl ?_
 refine awp_seq ?_
 refine awp_plain hN rfl ?_
 refine seq_run1 (stp_loadA tyS54 rfl rfl rfl) rfl ?_
 refine seq_run0 (stp_loadE1 tyS9 rfl rfl rfl) ?_
 obtain ⟨r3, h4, H⟩ := bnd H
 refine seq_run0 (stp_call (k_message_isNamed h1 c2 r3 h4) ⟨.inl rfl, .inl rfl, trivial⟩) ?_
 refine qe rfl ?_
 refine awp_ret ?_
 cases H
 exact ⟨trivial, .inl rfl, trivial⟩
theorem k_message_without (l1 : (List S_api_Header)) (name2 : Bs) (r : ((List S_api_Header))) (H : m_message_without l1 name2 = some r) : Fn Tryz.prog 33 [vlst (List.map C_api_Header l1), vstr name2] (resOf [vlst (List.map C_api_Header r)]) := by
 refine ⟨by kernel_rfl, pure_of (us := [vlst (List.map C_api_Header r)]) Tryz.func33 rfl rfl rfl rfl fun X hN => ?_⟩
 unfold m_message_without at H
 refine awp_seq ?_
 refine awp_plain hN rfl ?_
 refine seq_run2 (stp_box1 1 rfl rfl) rfl ?_
 refine qe rfl ?_
 refine awp_seq ?_
 refine awp_frzB 1 [vstr name2] rfl rfl ?_
 refine awp_plain hN rfl ?_
 refine qd rfl ?_
 obtain ⟨r3, h4, H⟩ := bnd H
 refine seq_callG (rn [(900, 2)]) [] [(900, _)] (kr_slices_Clone_L_api_Header_api_Header_ l1 r3 h4) ⟨rfl, trivial⟩ ⟨.inl (.inl rfl), trivial⟩ trivial rfl ?_
 refine seq_run0 (stp_mkfn (us := [_]) ⟨rfl, trivial⟩) ?_
 obtain ⟨r5, h6, H⟩ := bnd H
 refine seq_callG (rn [(0, 2), (900, 3)]) [(0, _, _, none)] [(900, _)] (ks_slices_DeleteFunc_L_api_Header_api_Header_ r3 (fun (a0 : S_api_Header) => m_message_without_1 a0 name2) 81 [vcell [[vstr name2]] 0 0] (fun a0 r h => k_message_without_1 a0 name2 r h) r5 h6) ⟨rfl, rfl, trivial⟩ ⟨.inl (.inl rfl), .inl (.inl rfl), trivial⟩ ⟨⟨⟨rfl, rfl, rfl⟩, trivial⟩, trivial⟩ rfl ?_
 refine seq_run0 (stp_assign (.row _ _) rfl) ?_
 refine awp_ret ?_
 cases H
 exact ⟨trivial, t_slotv rfl rfl, trivial⟩
end Go.Proofs.YtgjfcdcpiamikaaGreatDoor
