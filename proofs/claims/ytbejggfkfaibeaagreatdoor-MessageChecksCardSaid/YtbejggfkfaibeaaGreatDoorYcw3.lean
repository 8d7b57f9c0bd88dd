/- Walks along the models. Printed by a program. -/
import Derived.Test.YtbejggfkfaibeaaGreatDoorYcw2
namespace Go.Proofs.YtbejggfkfaibeaaGreatDoor
open Go.RowKit
set_option linter.unusedVariables false
set_option maxRecDepth 20000
theorem k_kit_Number (s1 : Bs) (most2 : Int) (r : (Int × Bool)) (H : m_kit_Number s1 most2 = some r) : Fn Tryz.prog 110 [vstr s1, vint most2] (resOf [vint r.1, vbool r.2]) := by
  refine ⟨by kernel_rfl, pure_of (us := [vint r.1, vbool r.2]) Tryz.func110 rfl rfl rfl rfl fun X hN => ?_⟩
  unfold m_kit_Number at H
  refine awp_seq ?_
  refine awp_plain hN rfl ?_
  refine seq_run0 (stp_assign (.dat _) rfl) ?_
  refine seq_run0 (stp_assign (.dat _) rfl) ?_
  refine awp_seq ?_
  refine awp_plain hN rfl ?_
  refine seq_run0 (stp_move (.dat _) rfl) ?_
  obtain ⟨r3, h4, H⟩ := bnd H
  refine seq_run0 (stp_call (k_strings_TrimPrefix s1 [45] r3 h4) ⟨.inl rfl, .inl rfl, trivial⟩) ?_
  refine seq_run0 (stp_assign (.dat _) rfl) ?_
  refine awp_seq ?_
  refine awp_joinE (ι := Bool) (fun i => [(0, .dat (vstr s1)), (6, .dat (vstr r3)), (28, .dat (vbool i))]) (fun i => []) (fun i => kit_Number_J1 s1 r3 i = some r) (fun i => rfl) ?_ ?_
  · skip
    refine awp_plain hN rfl ?_
    refine seq_run0 (stp_move (.dat _) rfl) ?_
    refine seq_run0 (stp_seql rfl rfl) ?_
    refine seq_run0 (stp_move (.dat _) rfl) ?_
    refine seq_split (j := 2) rfl rfl (fun h5 => ?_) (fun h5 => ?_) rfl
    · have h6 := un3 h5
      replace H := iff_ h6 H
      refine seq_g0 rfl rfl h5 (stp_move (.dat _) rfl) ?_
      refine seq_g0 rfl rfl h5 (stp_len_str tyU9 rfl) ?_
      refine seq_g0 rfl rfl h5 (stp_move (.dat _) rfl) ?_
      refine seq_g0 rfl rfl h5 (stp_gtr rfl rfl) ?_
      refine seq_run0 (stp_pick_f rfl (bFF h6) rfl) ?_
      refine seq_run0 (stp_move (.dat _) rfl) ?_
      refine seq_split (j := 8) rfl rfl (fun h7 => ?_) (fun h7 => ?_) rfl
      · have h8 := un3 h7
        replace H := iff_ h8 H
        refine seq_g0 rfl rfl h7 (stp_move (.dat _) rfl) ?_
        obtain ⟨x9, h10, H⟩ := bnd H
        refine seq_g0 rfl rfl h7 (t_byte tyU9 rfl rfl h10) ?_
        refine seq_g0 rfl rfl h7 (stp_eql rfl rfl) ?_
        refine seq_g0 rfl rfl h7 (stp_move (.dat _) rfl) ?_
        refine seq_split (j := 12) rfl rfl (fun h11 => ?_) (fun h11 => ?_) rfl
        · have h12 := un1 h11
          replace H := ift h12 H
          refine seq_g0 rfl rfl h11 (stp_move (.dat _) rfl) ?_
          refine seq_g0 rfl rfl h11 (stp_sneq rfl rfl) ?_
          refine seq_g0 rfl rfl h7 (stp_pick_t rfl (bTT h12) rfl) ?_
          refine seq_run0 (stp_pick_f rfl (bFF h8) rfl) ?_
          exact ⟨decide (s1 ≠ [48]), H, ⟨rfl, rfl, rfl, trivial⟩, trivial⟩
        · have h13 := un2 h11
          replace H := iff_ h13 H
          refine seq_skip rfl rfl h11 ?_
          refine seq_skip rfl rfl h11 ?_
          refine seq_g0 rfl rfl h7 (stp_pick_f rfl (bFF h13) rfl) ?_
          refine seq_run0 (stp_pick_f rfl (bFF h8) rfl) ?_
          exact ⟨false, H, ⟨rfl, rfl, rfl, trivial⟩, trivial⟩
      · have h14 := un4 h7
        replace H := ift h14 H
        refine seq_skip rfl rfl h7 ?_
        refine seq_skip rfl rfl h7 ?_
        refine seq_skip rfl rfl h7 ?_
        refine seq_skip rfl rfl h7 ?_
        refine seq_skipU rfl rfl ?_
        refine seq_skipU rfl rfl ?_
        refine seq_skip rfl rfl h7 ?_
        refine seq_run0 (stp_pick_t rfl (bTT h14) rfl) ?_
        exact ⟨true, H, ⟨rfl, rfl, rfl, trivial⟩, trivial⟩
    · have h15 := un4 h5
      replace H := ift h15 H
      refine seq_skip rfl rfl h5 ?_
      refine seq_skip rfl rfl h5 ?_
      refine seq_skip rfl rfl h5 ?_
      refine seq_skip rfl rfl h5 ?_
      refine seq_run0 (stp_pick_t rfl (bTT h15) rfl) ?_
      refine seq_run0 (stp_move (.dat _) rfl) ?_
      refine seq_skip rfl rfl rfl ?_
      refine seq_skip rfl rfl rfl ?_
      refine seq_skip rfl rfl rfl ?_
      refine seq_skip rfl rfl rfl ?_
      refine seq_skipU rfl rfl ?_
      refine seq_skipU rfl rfl ?_
      refine seq_skip rfl rfl rfl ?_
      refine seq_run0 (stp_pick_t rfl rfl rfl) ?_
      exact ⟨true, H, ⟨rfl, rfl, rfl, trivial⟩, trivial⟩
  · rintro v16 H
    replace H : kit_Number_J1 s1 r3 v16 = some r := H
    unfold kit_Number_J1 at H
    refine awp_cond _ rfl (fun h17 => ?_) (fun h17 => ?_)
    · replace H := ift h17 H
      refine awp_seq ?_
      refine awp_plain hN rfl ?_
      refine seq_run0 (stp_assign (.dat _) rfl) ?_
      refine seq_run0 (stp_assign (.dat _) rfl) ?_
      refine awp_ret ?_
      cases H
      exact ⟨trivial, .inl rfl, .inl rfl, trivial⟩
    · replace H := iff_ h17 H
      refine awp_skip ?_
      refine awp_seq ?_
      refine awp_seq ?_
      refine awp_plain hN rfl ?_
      refine seq_run0 (stp_assign (.dat _) rfl) ?_
      refine awp_block ?_
      obtain ⟨h20, H⟩ := gif H
      refine awp_forL (fun (i18 : Nat) (s : Unit) => [(0, .dat (vstr s1)), (6, .dat (vstr r3)), (7, .dat (vint (i18 : Int)))]) (fun (i18 : Nat) (s : Unit) => []) () H ⟨rfl, rfl, rfl, trivial⟩ trivial (fun _ _ => rfl) ?_ ?_
      · rintro ⟨⟩ H
        replace H : kit_Number_E2 s1 = some r := H
        unfold kit_Number_E2 at H
        refine awp_seq ?_
        refine awp_seq ?_
        refine awp_plain hN rfl ?_
        refine seq_run0 (stp_move (.dat _) rfl) ?_
        refine seq_run0 (stp_move (.dat _) rfl) ?_
        refine seq_run0 (stp_len_str tyU9 rfl) ?_
        refine seq_run0 (stp_lss rfl rfl) ?_
        refine awp_cond _ rfl (fun h => (lt_t h).elim) (fun h => ?_)
        refine awp_exit ?_
        refine awp_seq ?_
        refine awp_plain hN rfl ?_
        refine seq_run0 (stp_move (.dat _) rfl) ?_
        obtain ⟨r22, h23, H⟩ := bnd H
        refine seq_run0 (stp_call (k_strconv_Atoi s1 r22 h23) ⟨.inl rfl, trivial⟩) ?_
        refine seq_run0 (stp_move (.dat _) rfl) ?_
        refine seq_run0 (stp_ext rfl rfl) ?_
        refine seq_run0 (stp_ext rfl rfl) ?_
        refine seq_run0 (stp_assign (.dat _) rfl) ?_
        refine seq_run0 (stp_assign (.dat _) rfl) ?_
        refine awp_seq ?_
        refine awp_draw mixed hN rfl rfl ?_
        refine seq_run0 (stp_move (.dat _) rfl) ?_
        refine seq_run0 (stp_move (.dat _) rfl) ?_
        refine seq_run0 (stp_erreql (n := r22.2) (show Tryz.prog.underlying 112 = some (.interface (Tryz.prog.methodsAt 112)) from by kernel_rfl) rfl) ?_
        refine seq_run0 (stp_assign (.dat _) rfl) ?_
        refine seq_run0 (stp_assign (.dat _) rfl) ?_
        refine ⟨rfl, ?_⟩
        refine awp_ret ?_
        cases H
        exact ⟨trivial, .inl rfl, .inl rfl, trivial⟩
      · rintro i18 x21 ⟨⟩ q19 h24 h25 H hq19
        replace H : kit_Number_L2 i18 x21 = some q19 := H
        unfold kit_Number_L2 at H
        refine awp_seq ?_
        refine awp_seq ?_
        refine awp_plain hN rfl ?_
        refine seq_run0 (stp_move (.dat _) rfl) ?_
        refine seq_run0 (stp_move (.dat _) rfl) ?_
        refine seq_run0 (stp_len_str tyU9 rfl) ?_
        refine seq_run0 (stp_lss rfl rfl) ?_
        refine awp_cond _ rfl (fun h => ?_) (fun h => (lt_f h24 h).elim)
        refine awp_skip ?_
        refine awp_seq ?_
        refine awp_block ?_
        refine awp_joinE (ι := Bool) (fun i => [(0, .dat (vstr s1)), (6, .dat (vstr r3)), (7, .dat (vint (i18 : Int))), (44, .dat (vbool i))]) (fun i => []) (fun i => kit_Number_J3 i = some q19) (fun i => rfl) ?_ ?_
        · skip
          refine awp_plain hN rfl ?_
          refine seq_run0 (stp_move (.dat _) rfl) ?_
          refine seq_run0 (stp_move (.dat _) rfl) ?_
          refine seq_run0 (t_byte tyU9 rfl rfl h25) ?_
          refine seq_run0 (stp_lss rfl rfl) ?_
          refine seq_run0 (stp_move (.dat _) rfl) ?_
          refine seq_split (j := 4) rfl rfl (fun h26 => ?_) (fun h26 => ?_) rfl
          · have h27 := un3 h26
            replace H := iff_ h27 H
            refine seq_g0 rfl rfl h26 (stp_move (.dat _) rfl) ?_
            refine seq_g0 rfl rfl h26 (stp_move (.dat _) rfl) ?_
            refine seq_g0 rfl rfl h26 (t_byte tyU9 rfl rfl h25) ?_
            refine seq_g0 rfl rfl h26 (stp_gtr rfl rfl) ?_
            refine seq_run0 (stp_pick_f rfl (bFF h27) rfl) ?_
            exact ⟨decide (57 < (x21.toNat : Int)), H, ⟨rfl, rfl, rfl, rfl, trivial⟩, trivial⟩
          · have h28 := un4 h26
            replace H := ift h28 H
            refine seq_skip rfl rfl h26 ?_
            refine seq_skip rfl rfl h26 ?_
            refine seq_skip rfl rfl h26 ?_
            refine seq_skip rfl rfl h26 ?_
            refine seq_run0 (stp_pick_t rfl (bTT h28) rfl) ?_
            exact ⟨true, H, ⟨rfl, rfl, rfl, rfl, trivial⟩, trivial⟩
        · rintro v29 H
          replace H : kit_Number_J3 v29 = some q19 := H
          unfold kit_Number_J3 at H
          refine awp_cond _ rfl (fun h30 => ?_) (fun h30 => ?_)
          · replace H := ift h30 H
            refine awp_seq ?_
            refine awp_plain hN rfl ?_
            refine seq_run0 (stp_assign (.dat _) rfl) ?_
            refine seq_run0 (stp_assign (.dat _) rfl) ?_
            refine awp_ret ?_
            replace H := retl H hq19
            cases H
            exact ⟨trivial, .inl rfl, .inl rfl, trivial⟩
          · replace H := iff_ h30 H
            refine awp_skip ?_
            refine awp_plain hN rfl ?_
            refine seq_run0 (stp_move (.dat _) rfl) ?_
            refine seq_run0 (stp_add rfl rfl (by omega)) ?_
            refine seq_run0 (stp_assign (.dat _) rfl) ?_
            exact ⟨_, backl H, ⟨rfl, rfl, rfl, trivial⟩, trivial⟩
theorem k_kit_Small (s1 : Bs) (r : (Int × Bool)) (H : m_kit_Small s1 = some r) : Fn Tryz.prog 140 [vstr s1] (resOf [vint r.1, vbool r.2]) := by
  refine ⟨by kernel_rfl, pure_of (us := [vint r.1, vbool r.2]) Tryz.func140 rfl rfl rfl rfl fun X hN => ?_⟩
  unfold m_kit_Small at H
  refine awp_seq ?_
  refine awp_plain hN rfl ?_
  refine seq_run0 (stp_assign (.dat _) rfl) ?_
  refine seq_run0 (stp_assign (.dat _) rfl) ?_
  refine awp_seq ?_
  refine awp_plain hN rfl ?_
  refine seq_run0 (stp_move (.dat _) rfl) ?_
  obtain ⟨r2, h3, H⟩ := bnd H
  refine seq_run0 (stp_call (k_kit_Number s1 9 r2 h3) ⟨.inl rfl, .inl rfl, trivial⟩) ?_
  refine seq_run0 (stp_ext rfl rfl) ?_
  refine seq_run0 (stp_ext rfl rfl) ?_
  refine seq_run0 (stp_assign (.dat _) rfl) ?_
  refine seq_run0 (stp_assign (.dat _) rfl) ?_
  refine awp_ret ?_
  cases H
  exact ⟨trivial, .inl rfl, .inl rfl, trivial⟩
theorem k_kit_Outside (n1 : Int) (low2 : Int) (high3 : Int) (r : (Bool)) (H : m_kit_Outside n1 low2 high3 = some r) : Fn Tryz.prog 78 [vint n1, vint low2, vint high3] (resOf [vbool r]) := by
  refine ⟨by kernel_rfl, pure_of (us := [vbool r]) Tryz.func78 rfl rfl rfl rfl fun X hN => ?_⟩
  unfold m_kit_Outside at H
  refine awp_seq ?_
  refine awp_plain hN rfl ?_
  refine seq_run0 (stp_assign (.dat _) rfl) ?_
  refine awp_seq ?_
  refine awp_plain hN rfl ?_
  refine seq_run0 (stp_move (.dat _) rfl) ?_
  refine seq_run0 (stp_move (.dat _) rfl) ?_
  refine seq_run0 (stp_lss rfl rfl) ?_
  refine seq_run0 (stp_move (.dat _) rfl) ?_
  refine seq_aF rfl rfl (fun hc => stp_move (.dat _) rfl) ?_
  refine seq_aF rfl rfl (fun hc => stp_move (.dat _) rfl) ?_
  refine seq_aF rfl rfl (fun hc => stp_gtr (cnd (c := (!(decide (n1 < low2)))) hc) (cnd (c := (!(decide (n1 < low2)))) hc)) ?_
  refine seq_run0 (stp_pick_or rfl rfl (fun hb => (cnd (c := (!(decide (n1 < low2)))) (notI hb)))) ?_
  refine seq_run0 (stp_assign (.dat _) rfl) ?_
  refine awp_ret ?_
  cases H
  exact ⟨trivial, .inl rfl, trivial⟩
theorem k_message_isLabel (s1 : Bs) (r : (Bool)) (H : m_message_isLabel s1 = some r) : Fn Tryz.prog 139 [vstr s1] (resOf [vbool r]) := by
  refine ⟨by kernel_rfl, pure_of (us := [vbool r]) Tryz.func139 rfl rfl rfl rfl fun X hN => ?_⟩
  unfold m_message_isLabel at H
  refine awp_seq ?_
  refine awp_plain hN rfl ?_
  refine seq_run0 (stp_assign (.dat _) rfl) ?_
  refine awp_seq ?_
  refine awp_seq ?_
  refine awp_plain hN rfl ?_
  refine seq_run0 (stp_move (.dat _) rfl) ?_
  refine seq_run0 (stp_len_str tyU9 rfl) ?_
  refine seq_run0 (stp_move (.dat _) rfl) ?_
  refine awp_block ?_
  obtain ⟨h4, H⟩ := gif H
  refine awp_forL (fun (k2 : Nat) (s : Unit) => [(0, .dat (vstr s1)), (5, .dat (vint (s1.length : Int))), (6, .dat (vint (k2 : Int)))]) (fun (k2 : Nat) (s : Unit) => []) () H ⟨rfl, rfl, rfl, trivial⟩ trivial (fun _ _ => rfl) ?_ ?_
  · rintro ⟨⟩ H
    replace H : message_isLabel_E1 s1 = some r := H
    unfold message_isLabel_E1 at H
    refine awp_seq ?_
    refine awp_plain hN rfl ?_
    refine seq_run0 (stp_lss rfl rfl) ?_
    refine awp_seq ?_
    refine awp_cond _ rfl (fun h => (lt_t h).elim) (fun h => ?_)
    refine awp_exit ?_
    refine awp_joinE (ι := Bool) (fun i => [(2, .dat (vbool i))]) (fun i => []) (fun i => message_isLabel_J2 i = some r) (fun i => rfl) ?_ ?_
    · skip
      refine awp_plain hN rfl ?_
      refine seq_run0 (stp_move (.dat _) rfl) ?_
      refine seq_run0 (stp_sneq rfl rfl) ?_
      refine seq_run0 (stp_move (.dat _) rfl) ?_
      refine seq_split (j := 2) rfl rfl (fun h6 => ?_) (fun h6 => ?_) rfl
      · have h7 := un1 h6
        replace H := ift h7 H
        refine seq_g0 rfl rfl h6 (stp_move (.dat _) rfl) ?_
        refine seq_g0 rfl rfl h6 (stp_len_str tyU9 rfl) ?_
        refine seq_g0 rfl rfl h6 (stp_leq rfl rfl) ?_
        refine seq_run0 (stp_pick_t rfl (bTT h7) rfl) ?_
        refine seq_run0 (stp_move (.dat _) rfl) ?_
        refine seq_split (j := 7) rfl rfl (fun h8 => ?_) (fun h8 => ?_) rfl
        · have h9 := un1 h8
          replace H := ift h9 H
          refine seq_g0 rfl rfl h8 (stp_move (.dat _) rfl) ?_
          obtain ⟨x10, h11, H⟩ := bnd H
          refine seq_g0 rfl rfl h8 (t_byte tyU9 rfl rfl h11) ?_
          refine seq_g0 rfl rfl h8 (stp_neq rfl rfl) ?_
          refine seq_run0 (stp_pick_t rfl (bTT h9) rfl) ?_
          refine seq_run0 (stp_move (.dat _) rfl) ?_
          refine seq_split (j := 12) rfl rfl (fun h12 => ?_) (fun h12 => ?_) rfl
          · have h13 := un1 h12
            replace H := ift h13 H
            refine seq_g0 rfl rfl h12 (stp_move (.dat _) rfl) ?_
            refine seq_g0 rfl rfl h12 (stp_move (.dat _) rfl) ?_
            refine seq_g0 rfl rfl h12 (stp_len_str tyU9 rfl) ?_
            refine seq_g0 rfl rfl h12 (stp_wrap _ rfl rfl (.inr (.inl ⟨rfl, rfl⟩))) ?_
            obtain ⟨x14, h15, H⟩ := bnd H
            refine seq_g0 rfl rfl h12 (t_byteI tyU9 rfl rfl h15) ?_
            refine seq_g0 rfl rfl h12 (stp_neq rfl rfl) ?_
            refine seq_run0 (stp_pick_t rfl (bTT h13) rfl) ?_
            refine seq_run0 (stp_assign (.dat _) rfl) ?_
            exact ⟨decide ((x14.toNat : Int) ≠ 45), H, ⟨rfl, trivial⟩, trivial⟩
          · have h16 := un2 h12
            replace H := iff_ h16 H
            refine seq_skip rfl rfl h12 ?_
            refine seq_skip rfl rfl h12 ?_
            refine seq_skip rfl rfl h12 ?_
            refine seq_skip rfl rfl h12 ?_
            refine seq_skip rfl rfl h12 ?_
            refine seq_skip rfl rfl h12 ?_
            refine seq_run0 (stp_pick_f rfl (bFF h16) rfl) ?_
            refine seq_run0 (stp_assign (.dat _) rfl) ?_
            exact ⟨false, H, ⟨rfl, trivial⟩, trivial⟩
        · have h17 := un2 h8
          replace H := iff_ h17 H
          refine seq_skip rfl rfl h8 ?_
          refine seq_skip rfl rfl h8 ?_
          refine seq_skip rfl rfl h8 ?_
          refine seq_run0 (stp_pick_f rfl (bFF h17) rfl) ?_
          refine seq_run0 (stp_move (.dat _) rfl) ?_
          refine seq_skip rfl rfl rfl ?_
          refine seq_skip rfl rfl rfl ?_
          refine seq_skip rfl rfl rfl ?_
          refine seq_skip rfl rfl rfl ?_
          refine seq_skip rfl rfl rfl ?_
          refine seq_skip rfl rfl rfl ?_
          refine seq_run0 (stp_pick_f rfl rfl rfl) ?_
          refine seq_run0 (stp_assign (.dat _) rfl) ?_
          exact ⟨false, H, ⟨rfl, trivial⟩, trivial⟩
      · have h18 := un2 h6
        replace H := iff_ h18 H
        refine seq_skip rfl rfl h6 ?_
        refine seq_skip rfl rfl h6 ?_
        refine seq_skip rfl rfl h6 ?_
        refine seq_run0 (stp_pick_f rfl (bFF h18) rfl) ?_
        refine seq_run0 (stp_move (.dat _) rfl) ?_
        refine seq_skip rfl rfl rfl ?_
        refine seq_skip rfl rfl rfl ?_
        refine seq_skip rfl rfl rfl ?_
        refine seq_run0 (stp_pick_f rfl rfl rfl) ?_
        refine seq_run0 (stp_move (.dat _) rfl) ?_
        refine seq_skip rfl rfl rfl ?_
        refine seq_skip rfl rfl rfl ?_
        refine seq_skip rfl rfl rfl ?_
        refine seq_skip rfl rfl rfl ?_
        refine seq_skip rfl rfl rfl ?_
        refine seq_skip rfl rfl rfl ?_
        refine seq_run0 (stp_pick_f rfl rfl rfl) ?_
        refine seq_run0 (stp_assign (.dat _) rfl) ?_
        exact ⟨false, H, ⟨rfl, trivial⟩, trivial⟩
    · rintro v19 H
      replace H : message_isLabel_J2 v19 = some r := H
      unfold message_isLabel_J2 at H
      refine awp_ret ?_
      cases H
      exact ⟨trivial, .inl rfl, trivial⟩
  · rintro k2 x5 ⟨⟩ q3 h20 h21 H hq3
    replace H : message_isLabel_L1 k2 x5 = some q3 := H
    unfold message_isLabel_L1 at H
    refine awp_seq ?_
    refine awp_plain hN rfl ?_
    refine seq_run0 (stp_lss rfl rfl) ?_
    refine awp_seq ?_
    refine awp_cond _ rfl (fun h => ?_) (fun h => (lt_f h20 h).elim)
    refine awp_skip ?_
    refine awp_seq ?_
    refine awp_block ?_
    refine awp_seq ?_
    refine awp_plain hN rfl ?_
    refine seq_run0 (stp_move (.dat _) rfl) ?_
    refine seq_run0 (stp_assign (.dat _) rfl) ?_
    refine awp_joinE (ι := Bool) (fun i => [(0, .dat (vstr s1)), (5, .dat (vint (s1.length : Int))), (6, .dat (vint (k2 : Int))), (26, .dat (vbool i))]) (fun i => []) (fun i => message_isLabel_J3 i = some q3) (fun i => rfl) ?_ ?_
    · skip
      refine awp_plain hN rfl ?_
      refine seq_run0 (stp_move (.dat _) rfl) ?_
      refine seq_run0 (stp_move (.dat _) rfl) ?_
      refine seq_run0 (t_byte tyU9 rfl rfl h21) ?_
      obtain ⟨r22, h23, H⟩ := bnd H
      refine seq_run0 (stp_call (k_message_isLetter (x5.toNat : Int) r22 h23) ⟨.inl rfl, trivial⟩) ?_
      refine seq_run0 (stp_not rfl) ?_
      refine seq_run0 (stp_move (.dat _) rfl) ?_
      refine seq_split (j := 5) rfl rfl (fun h24 => ?_) (fun h24 => ?_) rfl
      · have h25 := un1 h24
        replace H := ift h25 H
        refine seq_g0 rfl rfl h24 (stp_move (.dat _) rfl) ?_
        refine seq_g0 rfl rfl h24 (stp_move (.dat _) rfl) ?_
        refine seq_g0 rfl rfl h24 (t_byte tyU9 rfl rfl h21) ?_
        obtain ⟨r26, h27, H⟩ := bnd H
        refine seq_g0 rfl rfl h24 (stp_call (k_message_isDigit (x5.toNat : Int) r26 h27) ⟨.inl rfl, trivial⟩) ?_
        refine seq_g0 rfl rfl h24 (stp_not rfl) ?_
        refine seq_run0 (stp_pick_t rfl (bTT h25) rfl) ?_
        refine seq_run0 (stp_move (.dat _) rfl) ?_
        refine seq_split (j := 12) rfl rfl (fun h28 => ?_) (fun h28 => ?_) rfl
        · have h29 := un1 h28
          replace H := ift h29 H
          refine seq_g0 rfl rfl h28 (stp_move (.dat _) rfl) ?_
          refine seq_g0 rfl rfl h28 (stp_move (.dat _) rfl) ?_
          refine seq_g0 rfl rfl h28 (t_byte tyU9 rfl rfl h21) ?_
          refine seq_g0 rfl rfl h28 (stp_neq rfl rfl) ?_
          refine seq_run0 (stp_pick_t rfl (bTT h29) rfl) ?_
          exact ⟨decide ((x5.toNat : Int) ≠ 45), H, ⟨rfl, rfl, rfl, rfl, trivial⟩, trivial⟩
        · have h30 := un2 h28
          replace H := iff_ h30 H
          refine seq_skip rfl rfl h28 ?_
          refine seq_skip rfl rfl h28 ?_
          refine seq_skip rfl rfl h28 ?_
          refine seq_skip rfl rfl h28 ?_
          refine seq_run0 (stp_pick_f rfl (bFF h30) rfl) ?_
          exact ⟨false, H, ⟨rfl, rfl, rfl, rfl, trivial⟩, trivial⟩
      · have h31 := un2 h24
        replace H := iff_ h31 H
        refine seq_skip rfl rfl h24 ?_
        refine seq_skip rfl rfl h24 ?_
        refine seq_skip rfl rfl h24 ?_
        refine seq_skip rfl rfl h24 ?_
        refine seq_skip rfl rfl h24 ?_
        refine seq_run0 (stp_pick_f rfl (bFF h31) rfl) ?_
        refine seq_run0 (stp_move (.dat _) rfl) ?_
        refine seq_skip rfl rfl rfl ?_
        refine seq_skip rfl rfl rfl ?_
        refine seq_skip rfl rfl rfl ?_
        refine seq_skip rfl rfl rfl ?_
        refine seq_run0 (stp_pick_f rfl rfl rfl) ?_
        exact ⟨false, H, ⟨rfl, rfl, rfl, rfl, trivial⟩, trivial⟩
    · rintro v32 H
      replace H : message_isLabel_J3 v32 = some q3 := H
      unfold message_isLabel_J3 at H
      refine awp_cond _ rfl (fun h33 => ?_) (fun h33 => ?_)
      · replace H := ift h33 H
        refine awp_seq ?_
        refine awp_plain hN rfl ?_
        refine seq_run0 (stp_assign (.dat _) rfl) ?_
        refine awp_ret ?_
        replace H := retl H hq3
        cases H
        exact ⟨trivial, .inl rfl, trivial⟩
      · replace H := iff_ h33 H
        refine awp_skip ?_
        refine awp_plain hN rfl ?_
        refine seq_run0 (stp_add rfl rfl (by omega)) ?_
        refine seq_run0 (stp_move (.dat _) rfl) ?_
        exact ⟨_, backl H, ⟨rfl, rfl, rfl, trivial⟩, trivial⟩
theorem k_message_isHost (s1 : Bs) (r : (Bool)) (H : m_message_isHost s1 = some r) : Fn Tryz.prog 72 [vstr s1] (resOf [vbool r]) := by
  refine ⟨by kernel_rfl, pure_of (us := [vbool r]) Tryz.func72 rfl rfl rfl rfl fun X hN => ?_⟩
  unfold m_message_isHost at H
  refine awp_seq ?_
  refine awp_plain hN rfl ?_
  refine seq_run0 (stp_assign (.dat _) rfl) ?_
  refine awp_seq ?_
  refine awp_plain hN rfl ?_
  refine seq_run0 (stp_move (.dat _) rfl) ?_
  obtain ⟨r2, h3, H⟩ := bnd H
  refine seq_run0 (stp_call (k_strings_Cut s1 [58] r2 h3) ⟨.inl rfl, .inl rfl, trivial⟩) ?_
  refine seq_run0 (stp_move (.dat _) rfl) ?_
  refine seq_run0 (stp_ext rfl rfl) ?_
  refine seq_run0 (stp_ext rfl rfl) ?_
  refine seq_run0 (stp_ext rfl rfl) ?_
  refine seq_run0 (stp_assign (.dat _) rfl) ?_
  refine seq_run0 (stp_assign (.dat _) rfl) ?_
  refine seq_run0 (stp_assign (.dat _) rfl) ?_
  refine awp_seq ?_
  refine awp_seq ?_
  refine awp_plain hN rfl ?_
  refine seq_run0 (stp_move (.dat _) rfl) ?_
  obtain ⟨r4, h5, H⟩ := bnd H
  refine seq_run0 (stp_call (k_strings_Split r2.1 [46] r4 h5) ⟨.inl rfl, .inl rfl, trivial⟩) ?_
  refine seq_run0 (t_len tyU41 rfl) ?_
  refine seq_run0 (stp_move (.dat _) rfl) ?_
  refine awp_block ?_
  obtain ⟨h8, H⟩ := gif H
  refine awp_forL (fun (k6 : Nat) (s : Unit) => [(0, .dat (vstr s1)), (4, .dat (vstr r2.2.1)), (5, .dat (vbool r2.2.2)), (17, .dat (vlst (List.map C_string r4))), (18, .dat (vint (r4.length : Int))), (19, .dat (vint (k6 : Int)))]) (fun (k6 : Nat) (s : Unit) => []) () H ⟨rfl, rfl, rfl, rfl, rfl, rfl, trivial⟩ trivial (fun _ _ => rfl) ?_ ?_
  · rintro ⟨⟩ H
    replace H : message_isHost_E1 s1 r2 = some r := H
    unfold message_isHost_E1 at H
    refine awp_seq ?_
    refine awp_plain hN rfl ?_
    refine seq_run0 (stp_lss rfl rfl) ?_
    refine awp_seq ?_
    refine awp_cond _ rfl (fun h => (lt_t h).elim) (fun h => ?_)
    refine awp_exit ?_
    refine awp_seq ?_
    refine awp_plain hN rfl ?_
    refine seq_run0 (stp_move (.dat _) rfl) ?_
    obtain ⟨r10, h11, H⟩ := bnd H
    refine seq_run0 (stp_call (k_kit_Small r2.2.1 r10 h11) ⟨.inl rfl, trivial⟩) ?_
    refine seq_run0 (stp_move (.dat _) rfl) ?_
    refine seq_run0 (stp_ext rfl rfl) ?_
    refine seq_run0 (stp_ext rfl rfl) ?_
    refine seq_run0 (stp_assign (.dat _) rfl) ?_
    refine seq_run0 (stp_assign (.dat _) rfl) ?_
    refine awp_joinE (ι := Bool) (fun i => [(2, .dat (vbool i))]) (fun i => []) (fun i => message_isHost_J2 i = some r) (fun i => rfl) ?_ ?_
    · skip
      refine awp_plain hN rfl ?_
      refine seq_run0 (stp_move (.dat _) rfl) ?_
      refine seq_run0 (stp_len_str tyU9 rfl) ?_
      refine seq_run0 (stp_leq rfl rfl) ?_
      refine seq_run0 (stp_move (.dat _) rfl) ?_
      refine seq_split (j := 3) rfl rfl (fun h12 => ?_) (fun h12 => ?_) rfl
      · have h13 := un1 h12
        replace H := ift h13 H
        refine seq_g0 rfl rfl h12 (stp_move (.dat _) rfl) ?_
        refine seq_g0 rfl rfl h12 (stp_not rfl) ?_
        refine seq_g0 rfl rfl h12 (stp_move (.dat _) rfl) ?_
        refine seq_split (j := 6) rfl rfl (fun h14 => ?_) (fun h14 => ?_) rfl
        · have h15 := un3 h14
          replace H := iff_ h15 H
          refine seq_g0 rfl rfl h14 (stp_move (.dat _) rfl) ?_
          refine seq_g0 rfl rfl h14 (stp_move (.dat _) rfl) ?_
          refine seq_split (j := 8) rfl rfl (fun h16 => ?_) (fun h16 => ?_) rfl
          · have h17 := un1 h16
            replace H := ift h17 H
            refine seq_g0 rfl rfl h16 (stp_move (.dat _) rfl) ?_
            obtain ⟨r18, h19, H⟩ := bnd H
            refine seq_g0 rfl rfl h16 (stp_call (k_kit_Outside r10.1 1 65535 r18 h19) ⟨.inl rfl, .inl rfl, .inl rfl, trivial⟩) ?_
            refine seq_g0 rfl rfl h16 (stp_not rfl) ?_
            refine seq_g0 rfl rfl h14 (stp_pick_t rfl (bTT h17) rfl) ?_
            refine seq_g0 rfl rfl h12 (stp_pick_f rfl (bFF h15) rfl) ?_
            refine seq_run0 (stp_pick_t rfl (bTT h13) rfl) ?_
            refine seq_run0 (stp_assign (.dat _) rfl) ?_
            exact ⟨!r18, H, ⟨rfl, trivial⟩, trivial⟩
          · have h20 := un2 h16
            replace H := iff_ h20 H
            refine seq_skip rfl rfl h16 ?_
            refine seq_skip rfl rfl h16 ?_
            refine seq_skip rfl rfl h16 ?_
            refine seq_g0 rfl rfl h14 (stp_pick_f rfl (bFF h20) rfl) ?_
            refine seq_g0 rfl rfl h12 (stp_pick_f rfl (bFF h15) rfl) ?_
            refine seq_run0 (stp_pick_t rfl (bTT h13) rfl) ?_
            refine seq_run0 (stp_assign (.dat _) rfl) ?_
            exact ⟨false, H, ⟨rfl, trivial⟩, trivial⟩
        · have h21 := un4 h14
          replace H := ift h21 H
          refine seq_skip rfl rfl h14 ?_
          refine seq_skip rfl rfl h14 ?_
          refine seq_skipU rfl rfl ?_
          refine seq_skipU rfl rfl ?_
          refine seq_skipU rfl rfl ?_
          refine seq_skip rfl rfl h14 ?_
          refine seq_g0 rfl rfl h12 (stp_pick_t rfl (bTT h21) rfl) ?_
          refine seq_run0 (stp_pick_t rfl (bTT h13) rfl) ?_
          refine seq_run0 (stp_assign (.dat _) rfl) ?_
          exact ⟨true, H, ⟨rfl, trivial⟩, trivial⟩
      · have h22 := un2 h12
        replace H := iff_ h22 H
        refine seq_skip rfl rfl h12 ?_
        refine seq_skip rfl rfl h12 ?_
        refine seq_skip rfl rfl h12 ?_
        refine seq_skipU rfl rfl ?_
        refine seq_skipU rfl rfl ?_
        refine seq_skipU rfl rfl ?_
        refine seq_skipU rfl rfl ?_
        refine seq_skipU rfl rfl ?_
        refine seq_skipU rfl rfl ?_
        refine seq_skip rfl rfl h12 ?_
        refine seq_run0 (stp_pick_f rfl (bFF h22) rfl) ?_
        refine seq_run0 (stp_assign (.dat _) rfl) ?_
        exact ⟨false, H, ⟨rfl, trivial⟩, trivial⟩
    · rintro v23 H
      replace H : message_isHost_J2 v23 = some r := H
      unfold message_isHost_J2 at H
      refine awp_ret ?_
      cases H
      exact ⟨trivial, .inl rfl, trivial⟩
  · rintro k6 x9 ⟨⟩ q7 h24 h25 H hq7
    replace H : message_isHost_L1 k6 x9 = some q7 := H
    unfold message_isHost_L1 at H
    refine awp_seq ?_
    refine awp_plain hN rfl ?_
    refine seq_run0 (stp_lss rfl rfl) ?_
    refine awp_seq ?_
    refine awp_cond _ rfl (fun h => ?_) (fun h => (lt_f h24 h).elim)
    refine awp_skip ?_
    refine awp_seq ?_
    refine awp_block ?_
    refine awp_seq ?_
    refine awp_plain hN rfl ?_
    refine seq_run0 (t_idx tyE41 (fun _ => rfl) rfl rfl h25) ?_
    refine seq_run0 (stp_loadE1 tyS9 rfl (map_at h25) rfl) ?_
    refine seq_run0 (stp_assign (.dat _) rfl) ?_
    refine awp_seq ?_
    refine awp_plain hN rfl ?_
    refine seq_run0 (stp_move (.dat _) rfl) ?_
    obtain ⟨r26, h27, H⟩ := bnd H
    refine seq_run0 (stp_call (k_message_isLabel x9 r26 h27) ⟨.inl rfl, trivial⟩) ?_
    refine seq_run0 (stp_not rfl) ?_
    refine awp_cond _ rfl (fun h28 => ?_) (fun h28 => ?_)
    · replace H := ift h28 H
      refine awp_seq ?_
      refine awp_plain hN rfl ?_
      refine seq_run0 (stp_assign (.dat _) rfl) ?_
      refine awp_ret ?_
      replace H := retl H hq7
      cases H
      exact ⟨trivial, .inl rfl, trivial⟩
    · replace H := iff_ h28 H
      refine awp_skip ?_
      refine awp_plain hN rfl ?_
      refine seq_run0 (stp_add rfl rfl (by omega)) ?_
      refine seq_run0 (stp_move (.dat _) rfl) ?_
      exact ⟨_, backl H, ⟨rfl, rfl, rfl, rfl, rfl, rfl, trivial⟩, trivial⟩
theorem k_strings_HasPrefix (s p : Bs) (r : Bool) (H : m_strings_HasPrefix s p = some r) : Fn Tryz.prog 135 [vstr s, vstr p] (resOf [vbool r]) := by
  cases H
  refine fn_of_calls (by kernel_rfl) fun M w vs h => ?_
  have h1 := Ts_vals (us := [.string ⟨s.toArray⟩, .string ⟨p.toArray⟩]) h
  subst h1
  refine (Tryz.strings_HasPrefix ⟨s.toArray⟩ ⟨p.toArray⟩ w).mono ?_
  rintro e w' ⟨rfl, rfl⟩
  exact ⟨_, rfl, rfl, Kp.refl _ _⟩
theorem k_strings_ContainsAny (s p : Bs) (r : Bool) (H : m_strings_ContainsAny s p = some r) : Fn Tryz.prog 141 [vstr s, vstr p] (resOf [vbool r]) := by
  unfold m_strings_ContainsAny at H
  obtain ⟨⟨⟨h1, h2⟩, h3, h4⟩, h5⟩ := gif H
  cases h5
  refine fn_of_callsG (by kernel_rfl) fun M w vs hM h => ?_
  have hv := Ts_vals (us := [.string ⟨s.toArray⟩, .string ⟨p.toArray⟩]) h
  subst hv
  refine (Tryz.strings_ContainsAny_laid ⟨s.toArray⟩ ⟨p.toArray⟩ w (by simp [ByteArray.size]; omega) (by simp [ByteArray.size]; omega) (fun j b hb => ascB_at h3 j b (by simpa using hb)) (fun j b hb => ascB_at h4 j b (by simpa using hb))).mono ?_
  rintro e w' ⟨rfl, hb⟩
  exact ⟨_, rfl, rfl, Kp.of_below hb⟩

theorem k_message_PathFault (s1 : Bs) (r : (Int)) (H : m_message_PathFault s1 = some r) : Fn Tryz.prog 73 [vstr s1] (resOf [vint r]) := by
  refine ⟨by kernel_rfl, pure_of (us := [vint r]) Tryz.func73 rfl rfl rfl rfl fun X hN => ?_⟩
  unfold m_message_PathFault at H
  refine awp_seq ?_
  refine awp_plain hN rfl ?_
  refine seq_run0 (stp_assign (.dat _) rfl) ?_
  refine awp_seq ?_
  refine awp_joinE (ι := Bool) (fun i => [(19, .dat (vbool i))]) (fun i => []) (fun i => message_PathFault_J1 i = some r) (fun i => rfl) ?_ ?_
  · skip
    refine awp_plain hN rfl ?_
    refine seq_run0 (stp_move (.dat _) rfl) ?_
    refine seq_run0 (stp_len_str tyU9 rfl) ?_
    refine seq_run0 (stp_gtr rfl rfl) ?_
    refine seq_run0 (stp_move (.dat _) rfl) ?_
    refine seq_split (j := 3) rfl rfl (fun h2 => ?_) (fun h2 => ?_) rfl
    · have h3 := un3 h2
      replace H := iff_ h3 H
      refine seq_g0 rfl rfl h2 (stp_move (.dat _) rfl) ?_
      obtain ⟨r4, h5, H⟩ := bnd H
      refine seq_g0 rfl rfl h2 (stp_call (k_strings_HasPrefix s1 [47] r4 h5) ⟨.inl rfl, .inl rfl, trivial⟩) ?_
      refine seq_g0 rfl rfl h2 (stp_not rfl) ?_
      refine seq_run0 (stp_pick_f rfl (bFF h3) rfl) ?_
      refine seq_run0 (stp_move (.dat _) rfl) ?_
      refine seq_split (j := 8) rfl rfl (fun h6 => ?_) (fun h6 => ?_) rfl
      · have h7 := un3 h6
        replace H := iff_ h7 H
        refine seq_g0 rfl rfl h6 (stp_move (.dat _) rfl) ?_
        obtain ⟨r8, h9, H⟩ := bnd H
        refine seq_g0 rfl rfl h6 (stp_call (k_message_isRange s1 33 126 r8 h9) ⟨.inl rfl, .inl rfl, .inl rfl, trivial⟩) ?_
        refine seq_g0 rfl rfl h6 (stp_not rfl) ?_
        refine seq_run0 (stp_pick_f rfl (bFF h7) rfl) ?_
        refine seq_run0 (stp_move (.dat _) rfl) ?_
        refine seq_split (j := 13) rfl rfl (fun h10 => ?_) (fun h10 => ?_) rfl
        · have h11 := un3 h10
          replace H := iff_ h11 H
          refine seq_g0 rfl rfl h10 (stp_move (.dat _) rfl) ?_
          obtain ⟨r12, h13, H⟩ := bnd H
          refine seq_g0 rfl rfl h10 (stp_call (k_strings_ContainsAny s1 [63, 35] r12 h13) ⟨.inl rfl, .inl rfl, trivial⟩) ?_
          refine seq_run0 (stp_pick_f rfl (bFF h11) rfl) ?_
          exact ⟨r12, H, ⟨rfl, trivial⟩, trivial⟩
        · have h14 := un4 h10
          replace H := ift h14 H
          refine seq_skip rfl rfl h10 ?_
          refine seq_skip rfl rfl h10 ?_
          refine seq_run0 (stp_pick_t rfl (bTT h14) rfl) ?_
          exact ⟨true, H, ⟨rfl, trivial⟩, trivial⟩
      · have h15 := un4 h6
        replace H := ift h15 H
        refine seq_skip rfl rfl h6 ?_
        refine seq_skip rfl rfl h6 ?_
        refine seq_skip rfl rfl h6 ?_
        refine seq_run0 (stp_pick_t rfl (bTT h15) rfl) ?_
        refine seq_run0 (stp_move (.dat _) rfl) ?_
        refine seq_skip rfl rfl rfl ?_
        refine seq_skip rfl rfl rfl ?_
        refine seq_run0 (stp_pick_t rfl rfl rfl) ?_
        exact ⟨true, H, ⟨rfl, trivial⟩, trivial⟩
    · have h16 := un4 h2
      replace H := ift h16 H
      refine seq_skip rfl rfl h2 ?_
      refine seq_skip rfl rfl h2 ?_
      refine seq_skip rfl rfl h2 ?_
      refine seq_run0 (stp_pick_t rfl (bTT h16) rfl) ?_
      refine seq_run0 (stp_move (.dat _) rfl) ?_
      refine seq_skip rfl rfl rfl ?_
      refine seq_skip rfl rfl rfl ?_
      refine seq_skip rfl rfl rfl ?_
      refine seq_run0 (stp_pick_t rfl rfl rfl) ?_
      refine seq_run0 (stp_move (.dat _) rfl) ?_
      refine seq_skip rfl rfl rfl ?_
      refine seq_skip rfl rfl rfl ?_
      refine seq_run0 (stp_pick_t rfl rfl rfl) ?_
      exact ⟨true, H, ⟨rfl, trivial⟩, trivial⟩
  · rintro v17 H
    replace H : message_PathFault_J1 v17 = some r := H
    unfold message_PathFault_J1 at H
    refine awp_cond _ rfl (fun h18 => ?_) (fun h18 => ?_)
    · replace H := ift h18 H
      refine awp_seq ?_
      refine awp_plain hN rfl ?_
      refine seq_run0 (stp_assign (.dat _) rfl) ?_
      refine awp_ret ?_
      cases H
      exact ⟨trivial, .inl rfl, trivial⟩
    · replace H := iff_ h18 H
      refine awp_skip ?_
      refine awp_seq ?_
      refine awp_plain hN rfl ?_
      refine seq_run0 (stp_assign (.dat _) rfl) ?_
      refine awp_ret ?_
      cases H
      exact ⟨trivial, .inl rfl, trivial⟩
theorem k_strings_Contains (s p : Bs) (r : Bool) (H : m_strings_Contains s p = some r) : Fn Tryz.prog 108 [vstr s, vstr p] (resOf [vbool r]) := by
  unfold m_strings_Contains at H
  obtain ⟨h1, h2⟩ := gif H
  cases h2
  refine fn_of_callsG (by kernel_rfl) fun M w vs hM h => ?_
  have hv := Ts_vals (us := [.string ⟨s.toArray⟩, .string ⟨p.toArray⟩]) h
  subst hv
  obtain ⟨m, hm⟩ := maxLen_cell hM
  refine (Tryz.strings_Contains ⟨s.toArray⟩ ⟨p.toArray⟩ m w (by simp [ByteArray.size]; omega) hm).mono ?_
  rintro e w' ⟨rfl, rfl⟩
  exact ⟨_, rfl, rfl, Kp.refl _ _⟩

theorem k_message_queryFault (s1 : Bs) (r : (Int)) (H : m_message_queryFault s1 = some r) : Fn Tryz.prog 74 [vstr s1] (resOf [vint r]) := by
  refine ⟨by kernel_rfl, pure_of (us := [vint r]) Tryz.func74 rfl rfl rfl rfl fun X hN => ?_⟩
  unfold m_message_queryFault at H
  refine awp_seq ?_
  refine awp_plain hN rfl ?_
  refine seq_run0 (stp_assign (.dat _) rfl) ?_
  refine awp_seq ?_
  refine awp_joinE (ι := Bool) (fun i => [(14, .dat (vbool i))]) (fun i => []) (fun i => message_queryFault_J1 i = some r) (fun i => rfl) ?_ ?_
  · skip
    refine awp_plain hN rfl ?_
    refine seq_run0 (stp_move (.dat _) rfl) ?_
    refine seq_run0 (stp_len_str tyU9 rfl) ?_
    refine seq_run0 (stp_gtr rfl rfl) ?_
    refine seq_run0 (stp_move (.dat _) rfl) ?_
    refine seq_split (j := 3) rfl rfl (fun h2 => ?_) (fun h2 => ?_) rfl
    · have h3 := un3 h2
      replace H := iff_ h3 H
      refine seq_g0 rfl rfl h2 (stp_move (.dat _) rfl) ?_
      obtain ⟨r4, h5, H⟩ := bnd H
      refine seq_g0 rfl rfl h2 (stp_call (k_message_isRange s1 33 126 r4 h5) ⟨.inl rfl, .inl rfl, .inl rfl, trivial⟩) ?_
      refine seq_g0 rfl rfl h2 (stp_not rfl) ?_
      refine seq_run0 (stp_pick_f rfl (bFF h3) rfl) ?_
      refine seq_run0 (stp_move (.dat _) rfl) ?_
      refine seq_split (j := 8) rfl rfl (fun h6 => ?_) (fun h6 => ?_) rfl
      · have h7 := un3 h6
        replace H := iff_ h7 H
        refine seq_g0 rfl rfl h6 (stp_move (.dat _) rfl) ?_
        obtain ⟨r8, h9, H⟩ := bnd H
        refine seq_g0 rfl rfl h6 (stp_call (k_strings_Contains s1 [35] r8 h9) ⟨.inl rfl, .inl rfl, trivial⟩) ?_
        refine seq_run0 (stp_pick_f rfl (bFF h7) rfl) ?_
        exact ⟨r8, H, ⟨rfl, trivial⟩, trivial⟩
      · have h10 := un4 h6
        replace H := ift h10 H
        refine seq_skip rfl rfl h6 ?_
        refine seq_skip rfl rfl h6 ?_
        refine seq_run0 (stp_pick_t rfl (bTT h10) rfl) ?_
        exact ⟨true, H, ⟨rfl, trivial⟩, trivial⟩
    · have h11 := un4 h2
      replace H := ift h11 H
      refine seq_skip rfl rfl h2 ?_
      refine seq_skip rfl rfl h2 ?_
      refine seq_skip rfl rfl h2 ?_
      refine seq_run0 (stp_pick_t rfl (bTT h11) rfl) ?_
      refine seq_run0 (stp_move (.dat _) rfl) ?_
      refine seq_skip rfl rfl rfl ?_
      refine seq_skip rfl rfl rfl ?_
      refine seq_run0 (stp_pick_t rfl rfl rfl) ?_
      exact ⟨true, H, ⟨rfl, trivial⟩, trivial⟩
  · rintro v12 H
    replace H : message_queryFault_J1 v12 = some r := H
    unfold message_queryFault_J1 at H
    refine awp_cond _ rfl (fun h13 => ?_) (fun h13 => ?_)
    · replace H := ift h13 H
      refine awp_seq ?_
      refine awp_plain hN rfl ?_
      refine seq_run0 (stp_assign (.dat _) rfl) ?_
      refine awp_ret ?_
      cases H
      exact ⟨trivial, .inl rfl, trivial⟩
    · replace H := iff_ h13 H
      refine awp_skip ?_
      refine awp_seq ?_
      refine awp_plain hN rfl ?_
      refine seq_run0 (stp_assign (.dat _) rfl) ?_
      refine awp_ret ?_
      cases H
      exact ⟨trivial, .inl rfl, trivial⟩
theorem k_message_CheckRequest (r1 : S_api_Request) (r : (Int)) (H : m_message_CheckRequest r1 = some r) : Fn Tryz.prog 13 [vagg (C_api_Request r1)] (resOf [vint r]) := by
  refine ⟨by kernel_rfl, pure_of (us := [vint r]) Tryz.func13 rfl rfl rfl rfl fun X hN => ?_⟩
  unfold m_message_CheckRequest at H
  refine awp_seq ?_
  refine awp_plain hN rfl ?_
  refine seq_run2 (stp_boxA 1 rfl) rfl ?_
  refine seq_run0 (stp_assign (.dat _) rfl) ?_
  refine awp_seq ?_
  refine awp_seq ?_
  refine awp_plain hN rfl ?_
  refine seq_run0 (stp_fldP tyF29_0 rfl) ?_
  refine seq_run1 (stp_load1 tyS3 rfl rfl) rfl ?_
  obtain ⟨r2, h3, H⟩ := bnd H
  refine seq_run0 (stp_call (k_kit_IsMoment r1.At r2 h3) ⟨.inl rfl, trivial⟩) ?_
  refine seq_run0 (stp_not rfl) ?_
  refine awp_cond _ rfl (fun h4 => ?_) (fun h4 => ?_)
  · replace H := ift h4 H
    refine awp_seq ?_
    refine awp_plain hN rfl ?_
    refine seq_run0 (stp_assign (.dat _) rfl) ?_
    refine awp_ret ?_
    cases H
    exact ⟨trivial, .inl rfl, trivial⟩
  · replace H := iff_ h4 H
    refine awp_skip ?_
    refine awp_seq ?_
    refine awp_seq ?_
    refine awp_plain hN rfl ?_
    refine seq_run0 (stp_fldP tyF29_1 rfl) ?_
    refine seq_run1 (stp_load1 tyS9 rfl rfl) rfl ?_
    obtain ⟨r5, h6, H⟩ := bnd H
    refine seq_run0 (stp_call (k_message_IsToken r1.Method r5 h6) ⟨.inl rfl, trivial⟩) ?_
    refine seq_run0 (stp_not rfl) ?_
    refine awp_cond _ rfl (fun h7 => ?_) (fun h7 => ?_)
    · replace H := ift h7 H
      refine awp_seq ?_
      refine awp_plain hN rfl ?_
      refine seq_run0 (stp_assign (.dat _) rfl) ?_
      refine awp_ret ?_
      cases H
      exact ⟨trivial, .inl rfl, trivial⟩
    · replace H := iff_ h7 H
      refine awp_skip ?_
      refine awp_seq ?_
      refine awp_joinE (ι := Bool) (fun i => [(1, .ptr 1 0), (33, .dat (vbool i))]) (fun i => [(1, .box none 29 [.dat (vint r1.At), .dat (vstr r1.Method), .dat (vstr r1.Host), .dat (vstr r1.Path), .dat (vstr r1.Query), .dat (vstr r1.From), .dat (vlst (List.map C_api_Header r1.Headers)), .dat (vstr r1.Body)])]) (fun i => message_CheckRequest_J1 r1 i = some r) (fun i => rfl) ?_ ?_
      · skip
        refine awp_plain hN rfl ?_
        refine seq_run0 (stp_fldP tyF29_2 rfl) ?_
        refine seq_run1 (stp_load1 tyS9 rfl rfl) rfl ?_
        obtain ⟨r8, h9, H⟩ := bnd H
        refine seq_run0 (stp_call (k_message_isHost r1.Host r8 h9) ⟨.inl rfl, trivial⟩) ?_
        refine seq_run0 (stp_not rfl) ?_
        refine seq_run0 (stp_move (.dat _) rfl) ?_
        refine seq_split (j := 4) rfl rfl (fun h10 => ?_) (fun h10 => ?_) rfl
        · have h11 := un3 h10
          replace H := iff_ h11 H
          refine seq_g0 rfl rfl h10 (stp_fldP tyF29_3 rfl) ?_
          refine seq_g1 rfl rfl h10 (stp_load1 tyS9 rfl rfl) rfl ?_
          obtain ⟨r12, h13, H⟩ := bnd H
          refine seq_g0 rfl rfl h10 (stp_call (k_message_PathFault r1.Path r12 h13) ⟨.inl rfl, trivial⟩) ?_
          refine seq_g0 rfl rfl h10 (stp_neq rfl rfl) ?_
          refine seq_run0 (stp_pick_f rfl (bFF h11) rfl) ?_
          refine seq_run0 (stp_move (.dat _) rfl) ?_
          refine seq_split (j := 10) rfl rfl (fun h14 => ?_) (fun h14 => ?_) rfl
          · have h15 := un3 h14
            replace H := iff_ h15 H
            refine seq_g0 rfl rfl h14 (stp_fldP tyF29_4 rfl) ?_
            refine seq_g1 rfl rfl h14 (stp_load1 tyS9 rfl rfl) rfl ?_
            obtain ⟨r16, h17, H⟩ := bnd H
            refine seq_g0 rfl rfl h14 (stp_call (k_message_queryFault r1.Query r16 h17) ⟨.inl rfl, trivial⟩) ?_
            refine seq_g0 rfl rfl h14 (stp_neq rfl rfl) ?_
            refine seq_run0 (stp_pick_f rfl (bFF h15) rfl) ?_
            refine seq_run0 (stp_move (.dat _) rfl) ?_
            refine seq_split (j := 16) rfl rfl (fun h18 => ?_) (fun h18 => ?_) rfl
            · have h19 := un3 h18
              replace H := iff_ h19 H
              refine seq_g0 rfl rfl h18 (stp_fldP tyF29_5 rfl) ?_
              refine seq_g1 rfl rfl h18 (stp_load1 tyS9 rfl rfl) rfl ?_
              obtain ⟨r20, h21, H⟩ := bnd H
              refine seq_g0 rfl rfl h18 (stp_call (k_message_IsField r1.From r20 h21) ⟨.inl rfl, trivial⟩) ?_
              refine seq_g0 rfl rfl h18 (stp_not rfl) ?_
              refine seq_run0 (stp_pick_f rfl (bFF h19) rfl) ?_
              exact ⟨!r20, H, ⟨rfl, rfl, trivial⟩, ⟨rfl, trivial⟩⟩
            · have h22 := un4 h18
              replace H := ift h22 H
              refine seq_skip rfl rfl h18 ?_
              refine seq_skip rfl rfl h18 ?_
              refine seq_skip rfl rfl h18 ?_
              refine seq_skip rfl rfl h18 ?_
              refine seq_run0 (stp_pick_t rfl (bTT h22) rfl) ?_
              exact ⟨true, H, ⟨rfl, rfl, trivial⟩, ⟨rfl, trivial⟩⟩
          · have h23 := un4 h14
            replace H := ift h23 H
            refine seq_skip rfl rfl h14 ?_
            refine seq_skip rfl rfl h14 ?_
            refine seq_skip rfl rfl h14 ?_
            refine seq_skip rfl rfl h14 ?_
            refine seq_run0 (stp_pick_t rfl (bTT h23) rfl) ?_
            refine seq_run0 (stp_move (.dat _) rfl) ?_
            refine seq_skip rfl rfl rfl ?_
            refine seq_skip rfl rfl rfl ?_
            refine seq_skip rfl rfl rfl ?_
            refine seq_skip rfl rfl rfl ?_
            refine seq_run0 (stp_pick_t rfl rfl rfl) ?_
            exact ⟨true, H, ⟨rfl, rfl, trivial⟩, ⟨rfl, trivial⟩⟩
        · have h24 := un4 h10
          replace H := ift h24 H
          refine seq_skip rfl rfl h10 ?_
          refine seq_skip rfl rfl h10 ?_
          refine seq_skip rfl rfl h10 ?_
          refine seq_skip rfl rfl h10 ?_
          refine seq_run0 (stp_pick_t rfl (bTT h24) rfl) ?_
          refine seq_run0 (stp_move (.dat _) rfl) ?_
          refine seq_skip rfl rfl rfl ?_
          refine seq_skip rfl rfl rfl ?_
          refine seq_skip rfl rfl rfl ?_
          refine seq_skip rfl rfl rfl ?_
          refine seq_run0 (stp_pick_t rfl rfl rfl) ?_
          refine seq_run0 (stp_move (.dat _) rfl) ?_
          refine seq_skip rfl rfl rfl ?_
          refine seq_skip rfl rfl rfl ?_
          refine seq_skip rfl rfl rfl ?_
          refine seq_skip rfl rfl rfl ?_
          refine seq_run0 (stp_pick_t rfl rfl rfl) ?_
          exact ⟨true, H, ⟨rfl, rfl, trivial⟩, ⟨rfl, trivial⟩⟩
      · rintro v25 H
        replace H : message_CheckRequest_J1 r1 v25 = some r := H
        unfold message_CheckRequest_J1 at H
        refine awp_cond _ rfl (fun h26 => ?_) (fun h26 => ?_)
        · replace H := ift h26 H
          refine awp_seq ?_
          refine awp_plain hN rfl ?_
          refine seq_run0 (stp_assign (.dat _) rfl) ?_
          refine awp_ret ?_
          cases H
          exact ⟨trivial, .inl rfl, trivial⟩
        · replace H := iff_ h26 H
          refine awp_skip ?_
          refine awp_seq ?_
          refine awp_seq ?_
          refine awp_plain hN rfl ?_
          refine seq_run0 (stp_fldP tyF29_6 rfl) ?_
          refine seq_run1 (stp_load1 tyS26 rfl rfl) rfl ?_
          obtain ⟨r27, h28, H⟩ := bnd H
          refine seq_run0 (stp_call (k_message_CheckHeaders r1.Headers r27 h28) ⟨.inl rfl, trivial⟩) ?_
          refine seq_run0 (stp_assign (.dat _) rfl) ?_
          refine awp_seq ?_
          refine awp_plain hN rfl ?_
          refine seq_run0 (stp_move (.dat _) rfl) ?_
          refine seq_run0 (stp_neq rfl rfl) ?_
          refine awp_cond _ rfl (fun h29 => ?_) (fun h29 => ?_)
          · replace H := ift h29 H
            refine awp_seq ?_
            refine awp_plain hN rfl ?_
            refine seq_run0 (stp_move (.dat _) rfl) ?_
            refine seq_run0 (stp_assign (.dat _) rfl) ?_
            refine awp_ret ?_
            cases H
            exact ⟨trivial, .inl rfl, trivial⟩
          · replace H := iff_ h29 H
            refine awp_skip ?_
            refine awp_seq ?_
            refine awp_seq ?_
            refine awp_plain hN rfl ?_
            refine seq_run0 (stp_fldP tyF29_7 rfl) ?_
            refine seq_run1 (stp_load1 tyS9 rfl rfl) rfl ?_
            refine seq_run0 (stp_len_str tyU9 rfl) ?_
            refine seq_run0 (stp_gtr rfl rfl) ?_
            refine awp_cond _ rfl (fun h30 => ?_) (fun h30 => ?_)
            · replace H := ift h30 H
              refine awp_seq ?_
              refine awp_plain hN rfl ?_
              refine seq_run0 (stp_assign (.dat _) rfl) ?_
              refine awp_ret ?_
              cases H
              exact ⟨trivial, .inl rfl, trivial⟩
            · replace H := iff_ h30 H
              refine awp_skip ?_
              refine awp_seq ?_
              refine awp_plain hN rfl ?_
              refine seq_run0 (stp_assign (.dat _) rfl) ?_
              refine awp_ret ?_
              cases H
              exact ⟨trivial, .inl rfl, trivial⟩
theorem k_gateref2_Moment (v1 : Int) (r : (Bool)) (H : m_gateref2_Moment v1 = some r) : Fn Tryz.prog 75 [vint v1] (resOf [vbool r]) := by
  refine ⟨by kernel_rfl, pure_of (us := [vbool r]) Tryz.func75 rfl rfl rfl rfl fun X hN => ?_⟩
  unfold m_gateref2_Moment at H
  refine awp_seq ?_
  refine awp_plain hN rfl ?_
  refine seq_run0 (stp_assign (.dat _) rfl) ?_
  refine awp_seq ?_
  refine awp_plain hN rfl ?_
  refine seq_run0 (stp_move (.dat _) rfl) ?_
  obtain ⟨r2, h3, H⟩ := bnd H
  refine seq_run0 (stp_call (k_gateref2_in v1 0 345686399999 r2 h3) ⟨.inl rfl, .inl rfl, .inl rfl, trivial⟩) ?_
  refine seq_run0 (stp_assign (.dat _) rfl) ?_
  refine awp_ret ?_
  cases H
  exact ⟨trivial, .inl rfl, trivial⟩
theorem k_strconv_Itoa (n : Int) (r : Bs) (H : m_strconv_Itoa n = some r) : Fn Tryz.prog 109 [vint n] (resOf [vstr r]) := by
  obtain ⟨⟨h1, h2⟩, h3⟩ := gif H
  cases h3
  refine fn_of_callsG (by kernel_rfl) fun M w vs hM h => ?_
  have hv := Ts_vals (us := [.int .i64 n]) h
  subst hv
  refine (Tryz.strconv_Itoa n h1 h2 w (pow10_tab hM)).mono ?_
  rintro e w' ⟨rfl, k, os, rfl⟩
  exact ⟨_, rfl, rfl, Kp.of_below ⟨rfl, rfl, rfl, by show w.heap.size ≤ (w.heap ++ os).size; rw [Array.size_append]; omega, fun j hj => by show (w.heap ++ os)[j]? = w.heap[j]?; exact Array.getElem?_append_left hj⟩⟩
theorem k_gateref2_Number (s1 : Bs) (most2 : Int) (r : (Int × Bool)) (H : m_gateref2_Number s1 most2 = some r) : Fn Tryz.prog 84 [vstr s1, vint most2] (resOf [vint r.1, vbool r.2]) := by
  refine ⟨by kernel_rfl, pure_of (us := [vint r.1, vbool r.2]) Tryz.func84 rfl rfl rfl rfl fun X hN => ?_⟩
  unfold m_gateref2_Number at H
  refine awp_seq ?_
  refine awp_plain hN rfl ?_
  refine seq_run0 (stp_assign (.dat _) rfl) ?_
  refine seq_run0 (stp_assign (.dat _) rfl) ?_
  refine awp_seq ?_
  refine awp_plain hN rfl ?_
  refine seq_run0 (stp_move (.dat _) rfl) ?_
  obtain ⟨r3, h4, H⟩ := bnd H
  refine seq_run0 (stp_call (k_strings_TrimPrefix s1 [45] r3 h4) ⟨.inl rfl, .inl rfl, trivial⟩) ?_
  refine seq_run0 (stp_assign (.dat _) rfl) ?_
  refine awp_seq ?_
  refine awp_joinE (ι := Bool) (fun i => [(0, .dat (vstr s1)), (23, .dat (vbool i))]) (fun i => []) (fun i => gateref2_Number_J1 s1 i = some r) (fun i => rfl) ?_ ?_
  · skip
    refine awp_plain hN rfl ?_
    refine seq_run0 (stp_move (.dat _) rfl) ?_
    refine seq_run0 (stp_seql rfl rfl) ?_
    refine seq_run0 (stp_move (.dat _) rfl) ?_
    refine seq_split (j := 2) rfl rfl (fun h5 => ?_) (fun h5 => ?_) rfl
    · have h6 := un3 h5
      replace H := iff_ h6 H
      refine seq_g0 rfl rfl h5 (stp_move (.dat _) rfl) ?_
      refine seq_g0 rfl rfl h5 (stp_len_str tyU9 rfl) ?_
      refine seq_g0 rfl rfl h5 (stp_move (.dat _) rfl) ?_
      refine seq_g0 rfl rfl h5 (stp_gtr rfl rfl) ?_
      refine seq_run0 (stp_pick_f rfl (bFF h6) rfl) ?_
      refine seq_run0 (stp_move (.dat _) rfl) ?_
      refine seq_split (j := 8) rfl rfl (fun h7 => ?_) (fun h7 => ?_) rfl
      · have h8 := un3 h7
        replace H := iff_ h8 H
        refine seq_g0 rfl rfl h7 (stp_move (.dat _) rfl) ?_
        obtain ⟨r9, h10, H⟩ := bnd H
        refine seq_g0 rfl rfl h7 (stp_call (k_gateref2_only r3 [48, 49, 50, 51, 52, 53, 54, 55, 56, 57] r9 h10) ⟨.inl rfl, .inl rfl, trivial⟩) ?_
        refine seq_g0 rfl rfl h7 (stp_not rfl) ?_
        refine seq_run0 (stp_pick_f rfl (bFF h8) rfl) ?_
        exact ⟨!r9, H, ⟨rfl, rfl, trivial⟩, trivial⟩
      · have h11 := un4 h7
        replace H := ift h11 H
        refine seq_skip rfl rfl h7 ?_
        refine seq_skip rfl rfl h7 ?_
        refine seq_skip rfl rfl h7 ?_
        refine seq_run0 (stp_pick_t rfl (bTT h11) rfl) ?_
        exact ⟨true, H, ⟨rfl, rfl, trivial⟩, trivial⟩
    · have h12 := un4 h5
      replace H := ift h12 H
      refine seq_skip rfl rfl h5 ?_
      refine seq_skip rfl rfl h5 ?_
      refine seq_skip rfl rfl h5 ?_
      refine seq_skip rfl rfl h5 ?_
      refine seq_run0 (stp_pick_t rfl (bTT h12) rfl) ?_
      refine seq_run0 (stp_move (.dat _) rfl) ?_
      refine seq_skip rfl rfl rfl ?_
      refine seq_skip rfl rfl rfl ?_
      refine seq_skip rfl rfl rfl ?_
      refine seq_run0 (stp_pick_t rfl rfl rfl) ?_
      exact ⟨true, H, ⟨rfl, rfl, trivial⟩, trivial⟩
  · rintro v13 H
    replace H : gateref2_Number_J1 s1 v13 = some r := H
    unfold gateref2_Number_J1 at H
    refine awp_cond _ rfl (fun h14 => ?_) (fun h14 => ?_)
    · replace H := ift h14 H
      refine awp_seq ?_
      refine awp_plain hN rfl ?_
      refine seq_run0 (stp_assign (.dat _) rfl) ?_
      refine seq_run0 (stp_assign (.dat _) rfl) ?_
      refine awp_ret ?_
      cases H
      exact ⟨trivial, .inl rfl, .inl rfl, trivial⟩
    · replace H := iff_ h14 H
      refine awp_skip ?_
      refine awp_seq ?_
      refine awp_plain hN rfl ?_
      refine seq_run0 (stp_move (.dat _) rfl) ?_
      obtain ⟨r15, h16, H⟩ := bnd H
      refine seq_run0 (stp_call (k_strconv_Atoi s1 r15 h16) ⟨.inl rfl, trivial⟩) ?_
      refine seq_run0 (stp_move (.dat _) rfl) ?_
      refine seq_run0 (stp_ext rfl rfl) ?_
      refine seq_run0 (stp_ext rfl rfl) ?_
      refine seq_run0 (stp_assign (.dat _) rfl) ?_
      refine seq_run0 (stp_assign (.dat _) rfl) ?_
      refine awp_joinE (ι := Bool) (fun i => [(4, .dat (vint r15.1)), (5, .dat (vbool i))]) (fun i => []) (fun i => gateref2_Number_J2 r15 i = some r) (fun i => rfl) ?_ ?_
      · skip
        refine awp_plain hN rfl ?_
        refine seq_run0 (stp_move (.dat _) rfl) ?_
        refine seq_run0 (stp_move (.dat _) rfl) ?_
        refine seq_run0 (stp_erreql (n := r15.2) (show Tryz.prog.underlying 112 = some (.interface (Tryz.prog.methodsAt 112)) from by kernel_rfl) rfl) ?_
        refine seq_run0 (stp_move (.dat _) rfl) ?_
        refine seq_split (j := 3) rfl rfl (fun h17 => ?_) (fun h17 => ?_) rfl
        · have h18 := un1 h17
          replace H := ift h18 H
          refine seq_g0 rfl rfl h17 (stp_move (.dat _) rfl) ?_
          obtain ⟨r19, h20, H⟩ := bnd H
          refine seq_g0 rfl rfl h17 (stp_call (k_strconv_Itoa r15.1 r19 h20) ⟨.inl rfl, trivial⟩) ?_
          refine seq_g0 rfl rfl h17 (stp_move (.dat _) rfl) ?_
          refine seq_g0 rfl rfl h17 (stp_seql rfl rfl) ?_
          refine seq_run0 (stp_pick_t rfl (bTT h18) rfl) ?_
          refine seq_run0 (stp_assign (.dat _) rfl) ?_
          refine seq_run0 (stp_assign (.dat _) rfl) ?_
          exact ⟨decide (r19 = s1), H, ⟨rfl, rfl, trivial⟩, trivial⟩
        · have h21 := un2 h17
          replace H := iff_ h21 H
          refine seq_skip rfl rfl h17 ?_
          refine seq_skip rfl rfl h17 ?_
          refine seq_skip rfl rfl h17 ?_
          refine seq_skip rfl rfl h17 ?_
          refine seq_run0 (stp_pick_f rfl (bFF h21) rfl) ?_
          refine seq_run0 (stp_assign (.dat _) rfl) ?_
          refine seq_run0 (stp_assign (.dat _) rfl) ?_
          exact ⟨false, H, ⟨rfl, rfl, trivial⟩, trivial⟩
      · rintro v22 H
        replace H : gateref2_Number_J2 r15 v22 = some r := H
        unfold gateref2_Number_J2 at H
        refine awp_ret ?_
        cases H
        exact ⟨trivial, .inl rfl, .inl rfl, trivial⟩
theorem k_strings_ToLower (s : Bs) (r : Bs) (H : m_strings_ToLower s = some r) : Fn Tryz.prog 83 [vstr s] (resOf [vstr r]) := by
  unfold m_strings_ToLower at H
  obtain ⟨⟨h1, h2⟩, h3⟩ := gif H
  cases h3
  refine fn_of_callsG (by kernel_rfl) fun M w vs hM h => ?_
  have hv := Ts_vals (us := [.string ⟨s.toArray⟩]) h
  subst hv
  refine (Tryz.strings_ToLower_ascii ⟨s.toArray⟩ w (by simp [ByteArray.size]; omega) (fun j b hb => ascB_at h2 j b (by simpa using hb))).mono ?_
  rintro e w' ⟨rfl, hb⟩
  exact ⟨_, rfl, rfl, Kp.of_below hb⟩

theorem k_gateref2_HostOf (v1 : Bs) (r : (Bs × Int)) (H : m_gateref2_HostOf v1 = some r) : Fn Tryz.prog 25 [vstr v1] (resOf [vstr r.1, vint r.2]) := by
  refine ⟨by kernel_rfl, pure_of (us := [vstr r.1, vint r.2]) Tryz.func25 rfl rfl rfl rfl fun X hN => ?_⟩
  unfold m_gateref2_HostOf at H
  refine awp_seq ?_
  refine awp_plain hN rfl ?_
  refine seq_run0 (stp_assign (.dat _) rfl) ?_
  refine seq_run0 (stp_assign (.dat _) rfl) ?_
  refine awp_seq ?_
  refine awp_plain hN rfl ?_
  refine seq_run0 (stp_move (.dat _) rfl) ?_
  obtain ⟨r2, h3, H⟩ := bnd H
  refine seq_run0 (stp_call (k_strings_Cut v1 [58] r2 h3) ⟨.inl rfl, .inl rfl, trivial⟩) ?_
  refine seq_run0 (stp_move (.dat _) rfl) ?_
  refine seq_run0 (stp_ext rfl rfl) ?_
  refine seq_run0 (stp_ext rfl rfl) ?_
  refine seq_run0 (stp_ext rfl rfl) ?_
  refine seq_run0 (stp_assign (.dat _) rfl) ?_
  refine seq_run0 (stp_assign (.dat _) rfl) ?_
  refine seq_run0 (stp_assign (.dat _) rfl) ?_
  refine awp_seq ?_
  refine awp_plain hN rfl ?_
  refine seq_run0 (stp_move (.dat _) rfl) ?_
  obtain ⟨r4, h5, H⟩ := bnd H
  refine seq_run0 (stp_call (k_gateref2_Number r2.2.1 5 r4 h5) ⟨.inl rfl, .inl rfl, trivial⟩) ?_
  refine seq_run0 (stp_move (.dat _) rfl) ?_
  refine seq_run0 (stp_ext rfl rfl) ?_
  refine seq_run0 (stp_ext rfl rfl) ?_
  refine seq_run0 (stp_assign (.dat _) rfl) ?_
  refine seq_run0 (stp_assign (.dat _) rfl) ?_
  refine awp_seq ?_
  refine awp_joinE (ι := Bool) (fun i => [(4, .dat (vstr r2.1)), (5, .dat (vstr r2.2.1)), (6, .dat (vbool r2.2.2)), (7, .dat (vint r4.1)), (37, .dat (vbool i))]) (fun i => []) (fun i => gateref2_HostOf_J1 r2 r4 i = some r) (fun i => rfl) ?_ ?_
  · skip
    refine awp_plain hN rfl ?_
    refine seq_run0 (stp_move (.dat _) rfl) ?_
    refine seq_run0 (stp_len_str tyU9 rfl) ?_
    refine seq_run0 (stp_gtr rfl rfl) ?_
    refine seq_run0 (stp_move (.dat _) rfl) ?_
    refine seq_split (j := 3) rfl rfl (fun h6 => ?_) (fun h6 => ?_) rfl
    · have h7 := un3 h6
      replace H := iff_ h7 H
      refine seq_g0 rfl rfl h6 (stp_move (.dat _) rfl) ?_
      refine seq_g0 rfl rfl h6 (stp_move (.dat _) rfl) ?_
      refine seq_split (j := 5) rfl rfl (fun h8 => ?_) (fun h8 => ?_) rfl
      · have h9 := un1 h8
        replace H := ift h9 H
        refine seq_g0 rfl rfl h8 (stp_move (.dat _) rfl) ?_
        refine seq_g0 rfl rfl h8 (stp_not rfl) ?_
        refine seq_g0 rfl rfl h8 (stp_move (.dat _) rfl) ?_
        refine seq_split (j := 8) rfl rfl (fun h10 => ?_) (fun h10 => ?_) rfl
        · have h11 := un3 h10
          replace H := iff_ h11 H
          refine seq_g0 rfl rfl h10 (stp_move (.dat _) rfl) ?_
          obtain ⟨r12, h13, H⟩ := bnd H
          refine seq_g0 rfl rfl h10 (stp_call (k_gateref2_in r4.1 1 65535 r12 h13) ⟨.inl rfl, .inl rfl, .inl rfl, trivial⟩) ?_
          refine seq_g0 rfl rfl h10 (stp_not rfl) ?_
          refine seq_g0 rfl rfl h8 (stp_pick_f rfl (bFF h11) rfl) ?_
          refine seq_g0 rfl rfl h6 (stp_pick_t rfl (bTT h9) rfl) ?_
          refine seq_run0 (stp_pick_f rfl (bFF h7) rfl) ?_
          exact ⟨!r12, H, ⟨rfl, rfl, rfl, rfl, rfl, trivial⟩, trivial⟩
        · have h14 := un4 h10
          replace H := ift h14 H
          refine seq_skip rfl rfl h10 ?_
          refine seq_skip rfl rfl h10 ?_
          refine seq_skip rfl rfl h10 ?_
          refine seq_g0 rfl rfl h8 (stp_pick_t rfl (bTT h14) rfl) ?_
          refine seq_g0 rfl rfl h6 (stp_pick_t rfl (bTT h9) rfl) ?_
          refine seq_run0 (stp_pick_f rfl (bFF h7) rfl) ?_
          exact ⟨true, H, ⟨rfl, rfl, rfl, rfl, rfl, trivial⟩, trivial⟩
      · have h15 := un2 h8
        replace H := iff_ h15 H
        refine seq_skip rfl rfl h8 ?_
        refine seq_skip rfl rfl h8 ?_
        refine seq_skip rfl rfl h8 ?_
        refine seq_skipU rfl rfl ?_
        refine seq_skipU rfl rfl ?_
        refine seq_skipU rfl rfl ?_
        refine seq_skip rfl rfl h8 ?_
        refine seq_g0 rfl rfl h6 (stp_pick_f rfl (bFF h15) rfl) ?_
        refine seq_run0 (stp_pick_f rfl (bFF h7) rfl) ?_
        exact ⟨false, H, ⟨rfl, rfl, rfl, rfl, rfl, trivial⟩, trivial⟩
    · have h16 := un4 h6
      replace H := ift h16 H
      refine seq_skip rfl rfl h6 ?_
      refine seq_skip rfl rfl h6 ?_
      refine seq_skipU rfl rfl ?_
      refine seq_skipU rfl rfl ?_
      refine seq_skipU rfl rfl ?_
      refine seq_skipU rfl rfl ?_
      refine seq_skipU rfl rfl ?_
      refine seq_skipU rfl rfl ?_
      refine seq_skipU rfl rfl ?_
      refine seq_skip rfl rfl h6 ?_
      refine seq_run0 (stp_pick_t rfl (bTT h16) rfl) ?_
      exact ⟨true, H, ⟨rfl, rfl, rfl, rfl, rfl, trivial⟩, trivial⟩
  · rintro v17 H
    replace H : gateref2_HostOf_J1 r2 r4 v17 = some r := H
    unfold gateref2_HostOf_J1 at H
    refine awp_cond _ rfl (fun h18 => ?_) (fun h18 => ?_)
    · replace H := ift h18 H
      refine awp_seq ?_
      refine awp_plain hN rfl ?_
      refine seq_run0 (stp_assign (.dat _) rfl) ?_
      refine seq_run0 (stp_assign (.dat _) rfl) ?_
      refine awp_ret ?_
      cases H
      exact ⟨trivial, .inl rfl, .inl rfl, trivial⟩
    · replace H := iff_ h18 H
      refine awp_skip ?_
      refine awp_seq ?_
      refine awp_seq ?_
      refine awp_plain hN rfl ?_
      refine seq_run0 (stp_move (.dat _) rfl) ?_
      obtain ⟨r19, h20, H⟩ := bnd H
      refine seq_run0 (stp_call (k_strings_Split r2.1 [46] r19 h20) ⟨.inl rfl, .inl rfl, trivial⟩) ?_
      refine seq_run0 (t_len tyU41 rfl) ?_
      refine seq_run0 (stp_move (.dat _) rfl) ?_
      refine awp_block ?_
      obtain ⟨h23, H⟩ := gif H
      refine awp_forL (fun (k21 : Nat) (s : Unit) => [(4, .dat (vstr r2.1)), (5, .dat (vstr r2.2.1)), (6, .dat (vbool r2.2.2)), (7, .dat (vint r4.1)), (39, .dat (vlst (List.map C_string r19))), (40, .dat (vint (r19.length : Int))), (41, .dat (vint (k21 : Int)))]) (fun (k21 : Nat) (s : Unit) => []) () H ⟨rfl, rfl, rfl, rfl, rfl, rfl, rfl, trivial⟩ trivial (fun _ _ => rfl) ?_ ?_
      · rintro ⟨⟩ H
        replace H : gateref2_HostOf_E2 r2 r4 = some r := H
        unfold gateref2_HostOf_E2 at H
        refine awp_seq ?_
        refine awp_plain hN rfl ?_
        refine seq_run0 (stp_lss rfl rfl) ?_
        refine awp_seq ?_
        refine awp_cond _ rfl (fun h => (lt_t h).elim) (fun h => ?_)
        refine awp_exit ?_
        refine awp_seq ?_
        refine awp_plain hN rfl ?_
        refine seq_run0 (stp_move (.dat _) rfl) ?_
        obtain ⟨r25, h26, H⟩ := bnd H
        refine seq_run0 (stp_call (k_strings_ToLower r2.1 r25 h26) ⟨.inl rfl, trivial⟩) ?_
        refine seq_run0 (stp_assign (.dat _) rfl) ?_
        refine awp_joinE (ι := Bs) (fun i => [(11, .dat (vstr i))]) (fun i => []) (fun i => gateref2_HostOf_J3 i = some r) (fun i => rfl) ?_ ?_
        · skip
          refine awp_seq ?_
          refine awp_plain hN rfl ?_
          refine seq_run0 (stp_move (.dat _) rfl) ?_
          refine seq_run0 (stp_move (.dat _) rfl) ?_
          refine seq_aT rfl rfl (fun hc => stp_move (.dat _) rfl) ?_
          refine seq_aT rfl rfl (fun hc => stp_neq (cnd (c := r2.2.2) hc) rfl) ?_
          refine seq_run0 (stp_pick_and rfl (fun hb => (cnd (c := r2.2.2) hb)) rfl) ?_
          refine seq_run0 (stp_move (.dat _) rfl) ?_
          refine seq_aT rfl rfl (fun hc => stp_move (.dat _) rfl) ?_
          refine seq_aT rfl rfl (fun hc => stp_neq (cnd (c := (r2.2.2 && (decide (r4.1 ≠ 80)))) hc) rfl) ?_
          refine seq_run0 (stp_pick_and rfl (fun hb => (cnd (c := (r2.2.2 && (decide (r4.1 ≠ 80)))) hb)) rfl) ?_
          refine awp_cond _ rfl (fun h27 => ?_) (fun h27 => ?_)
          · replace H := ift h27 H
            refine awp_plain hN rfl ?_
            refine seq_run0 (stp_move (.dat _) rfl) ?_
            refine seq_run0 (stp_move (.dat _) rfl) ?_
            obtain ⟨h28, H⟩ := gif H
            refine seq_run0 (stp_sadd rfl rfl (Nat.le_trans h28 (by decide))) ?_
            obtain ⟨h29, H⟩ := gif H
            refine seq_run0 (stp_sadd rfl rfl (Nat.le_trans h29 (by decide))) ?_
            refine seq_run0 (stp_assign (.dat _) rfl) ?_
            exact ⟨(r25 ++ ([58] ++ r2.2.1)), H, ⟨rfl, trivial⟩, trivial⟩
          · replace H := iff_ h27 H
            refine awp_skip ?_
            exact ⟨r25, H, ⟨rfl, trivial⟩, trivial⟩
        · rintro v30 H
          replace H : gateref2_HostOf_J3 v30 = some r := H
          unfold gateref2_HostOf_J3 at H
          refine awp_seq ?_
          refine awp_plain hN rfl ?_
          refine seq_run0 (stp_move (.dat _) rfl) ?_
          refine seq_run0 (stp_assign (.dat _) rfl) ?_
          refine seq_run0 (stp_assign (.dat _) rfl) ?_
          refine awp_ret ?_
          cases H
          exact ⟨trivial, .inl rfl, .inl rfl, trivial⟩
      · rintro k21 x24 ⟨⟩ q22 h31 h32 H hq22
        replace H : gateref2_HostOf_L2 k21 x24 = some q22 := H
        unfold gateref2_HostOf_L2 at H
        refine awp_seq ?_
        refine awp_plain hN rfl ?_
        refine seq_run0 (stp_lss rfl rfl) ?_
        refine awp_seq ?_
        refine awp_cond _ rfl (fun h => ?_) (fun h => (lt_f h31 h).elim)
        refine awp_skip ?_
        refine awp_seq ?_
        refine awp_block ?_
        refine awp_seq ?_
        refine awp_plain hN rfl ?_
        refine seq_run0 (t_idx tyE41 (fun _ => rfl) rfl rfl h32) ?_
        refine seq_run0 (stp_loadE1 tyS9 rfl (map_at h32) rfl) ?_
        refine seq_run0 (stp_assign (.dat _) rfl) ?_
        refine awp_joinE (ι := Bool) (fun i => [(4, .dat (vstr r2.1)), (5, .dat (vstr r2.2.1)), (6, .dat (vbool r2.2.2)), (7, .dat (vint r4.1)), (39, .dat (vlst (List.map C_string r19))), (40, .dat (vint (r19.length : Int))), (41, .dat (vint (k21 : Int))), (59, .dat (vbool i))]) (fun i => []) (fun i => gateref2_HostOf_J4 i = some q22) (fun i => rfl) ?_ ?_
        · skip
          refine awp_plain hN rfl ?_
          refine seq_run0 (stp_move (.dat _) rfl) ?_
          refine seq_run0 (stp_len_str tyU9 rfl) ?_
          obtain ⟨r33, h34, H⟩ := bnd H
          refine seq_run0 (stp_call (k_gateref2_in (x24.length : Int) 1 63 r33 h34) ⟨.inl rfl, .inl rfl, .inl rfl, trivial⟩) ?_
          refine seq_run0 (stp_not rfl) ?_
          refine seq_run0 (stp_move (.dat _) rfl) ?_
          refine seq_split (j := 4) rfl rfl (fun h35 => ?_) (fun h35 => ?_) rfl
          · have h36 := un3 h35
            replace H := iff_ h36 H
            refine seq_g0 rfl rfl h35 (stp_move (.dat _) rfl) ?_
            obtain ⟨r37, h38, H⟩ := bnd H
            refine seq_g0 rfl rfl h35 (stp_call (k_gateref2_only x24 [97, 98, 99, 100, 101, 102, 103, 104, 105, 106, 107, 108, 109, 110, 111, 112, 113, 114, 115, 116, 117, 118, 119, 120, 121, 122, 65, 66, 67, 68, 69, 70, 71, 72, 73, 74, 75, 76, 77, 78, 79, 80, 81, 82, 83, 84, 85, 86, 87, 88, 89, 90, 48, 49, 50, 51, 52, 53, 54, 55, 56, 57, 45] r37 h38) ⟨.inl rfl, .inl rfl, trivial⟩) ?_
            refine seq_g0 rfl rfl h35 (stp_not rfl) ?_
            refine seq_run0 (stp_pick_f rfl (bFF h36) rfl) ?_
            refine seq_run0 (stp_move (.dat _) rfl) ?_
            refine seq_split (j := 9) rfl rfl (fun h39 => ?_) (fun h39 => ?_) rfl
            · have h40 := un3 h39
              replace H := iff_ h40 H
              refine seq_g0 rfl rfl h39 (stp_move (.dat _) rfl) ?_
              obtain ⟨r41, h42, H⟩ := bnd H
              refine seq_g0 rfl rfl h39 (stp_call (k_strings_Trim x24 [45] r41 h42) ⟨.inl rfl, .inl rfl, trivial⟩) ?_
              refine seq_g0 rfl rfl h39 (stp_move (.dat _) rfl) ?_
              refine seq_g0 rfl rfl h39 (stp_sneq rfl rfl) ?_
              refine seq_run0 (stp_pick_f rfl (bFF h40) rfl) ?_
              exact ⟨decide (r41 ≠ x24), H, ⟨rfl, rfl, rfl, rfl, rfl, rfl, rfl, rfl, trivial⟩, trivial⟩
            · have h43 := un4 h39
              replace H := ift h43 H
              refine seq_skip rfl rfl h39 ?_
              refine seq_skip rfl rfl h39 ?_
              refine seq_skip rfl rfl h39 ?_
              refine seq_skip rfl rfl h39 ?_
              refine seq_run0 (stp_pick_t rfl (bTT h43) rfl) ?_
              exact ⟨true, H, ⟨rfl, rfl, rfl, rfl, rfl, rfl, rfl, rfl, trivial⟩, trivial⟩
          · have h44 := un4 h35
            replace H := ift h44 H
            refine seq_skip rfl rfl h35 ?_
            refine seq_skip rfl rfl h35 ?_
            refine seq_skip rfl rfl h35 ?_
            refine seq_run0 (stp_pick_t rfl (bTT h44) rfl) ?_
            refine seq_run0 (stp_move (.dat _) rfl) ?_
            refine seq_skip rfl rfl rfl ?_
            refine seq_skip rfl rfl rfl ?_
            refine seq_skip rfl rfl rfl ?_
            refine seq_skip rfl rfl rfl ?_
            refine seq_run0 (stp_pick_t rfl rfl rfl) ?_
            exact ⟨true, H, ⟨rfl, rfl, rfl, rfl, rfl, rfl, rfl, rfl, trivial⟩, trivial⟩
        · rintro v45 H
          replace H : gateref2_HostOf_J4 v45 = some q22 := H
          unfold gateref2_HostOf_J4 at H
          refine awp_cond _ rfl (fun h46 => ?_) (fun h46 => ?_)
          · replace H := ift h46 H
            refine awp_seq ?_
            refine awp_plain hN rfl ?_
            refine seq_run0 (stp_assign (.dat _) rfl) ?_
            refine seq_run0 (stp_assign (.dat _) rfl) ?_
            refine awp_ret ?_
            replace H := retl H hq22
            cases H
            exact ⟨trivial, .inl rfl, .inl rfl, trivial⟩
          · replace H := iff_ h46 H
            refine awp_skip ?_
            refine awp_plain hN rfl ?_
            refine seq_run0 (stp_add rfl rfl (by omega)) ?_
            refine seq_run0 (stp_move (.dat _) rfl) ?_
            exact ⟨_, backl H, ⟨rfl, rfl, rfl, rfl, rfl, rfl, rfl, trivial⟩, trivial⟩
theorem k_gateref2_pathForm (s1 : Bs) (r : (Bool)) (H : m_gateref2_pathForm s1 = some r) : Fn Tryz.prog 76 [vstr s1] (resOf [vbool r]) := by
  refine ⟨by kernel_rfl, pure_of (us := [vbool r]) Tryz.func76 rfl rfl rfl rfl fun X hN => ?_⟩
  unfold m_gateref2_pathForm at H
  refine awp_seq ?_
  refine awp_plain hN rfl ?_
  refine seq_run0 (stp_assign (.dat _) rfl) ?_
  refine awp_joinE (ι := Bool) (fun i => [(2, .dat (vbool i))]) (fun i => []) (fun i => gateref2_pathForm_J1 i = some r) (fun i => rfl) ?_ ?_
  · skip
    refine awp_plain hN rfl ?_
    refine seq_run0 (stp_move (.dat _) rfl) ?_
    refine seq_run0 (stp_len_str tyU9 rfl) ?_
    obtain ⟨r2, h3, H⟩ := bnd H
    refine seq_run0 (stp_call (k_gateref2_in (s1.length : Int) 1 1000 r2 h3) ⟨.inl rfl, .inl rfl, .inl rfl, trivial⟩) ?_
    refine seq_run0 (stp_move (.dat _) rfl) ?_
    refine seq_split (j := 3) rfl rfl (fun h4 => ?_) (fun h4 => ?_) rfl
    · have h5 := un1 h4
      replace H := ift h5 H
      refine seq_g0 rfl rfl h4 (stp_move (.dat _) rfl) ?_
      obtain ⟨x6, h7, H⟩ := bnd H
      refine seq_g0 rfl rfl h4 (t_byte tyU9 rfl rfl h7) ?_
      refine seq_g0 rfl rfl h4 (stp_eql rfl rfl) ?_
      refine seq_run0 (stp_pick_t rfl (bTT h5) rfl) ?_
      refine seq_run0 (stp_move (.dat _) rfl) ?_
      refine seq_split (j := 8) rfl rfl (fun h8 => ?_) (fun h8 => ?_) rfl
      · have h9 := un1 h8
        replace H := ift h9 H
        refine seq_g0 rfl rfl h8 (stp_move (.dat _) rfl) ?_
        obtain ⟨r10, h11, H⟩ := bnd H
        refine seq_g0 rfl rfl h8 (stp_call (k_gateref2_visible s1 33 r10 h11) ⟨.inl rfl, .inl rfl, trivial⟩) ?_
        refine seq_run0 (stp_pick_t rfl (bTT h9) rfl) ?_
        refine seq_run0 (stp_move (.dat _) rfl) ?_
        refine seq_split (j := 12) rfl rfl (fun h12 => ?_) (fun h12 => ?_) rfl
        · have h13 := un1 h12
          replace H := ift h13 H
          refine seq_g0 rfl rfl h12 (stp_move (.dat _) rfl) ?_
          obtain ⟨r14, h15, H⟩ := bnd H
          refine seq_g0 rfl rfl h12 (stp_call (k_strings_ContainsAny s1 [63, 35] r14 h15) ⟨.inl rfl, .inl rfl, trivial⟩) ?_
          refine seq_g0 rfl rfl h12 (stp_not rfl) ?_
          refine seq_run0 (stp_pick_t rfl (bTT h13) rfl) ?_
          refine seq_run0 (stp_assign (.dat _) rfl) ?_
          exact ⟨!r14, H, ⟨rfl, trivial⟩, trivial⟩
        · have h16 := un2 h12
          replace H := iff_ h16 H
          refine seq_skip rfl rfl h12 ?_
          refine seq_skip rfl rfl h12 ?_
          refine seq_skip rfl rfl h12 ?_
          refine seq_run0 (stp_pick_f rfl (bFF h16) rfl) ?_
          refine seq_run0 (stp_assign (.dat _) rfl) ?_
          exact ⟨false, H, ⟨rfl, trivial⟩, trivial⟩
      · have h17 := un2 h8
        replace H := iff_ h17 H
        refine seq_skip rfl rfl h8 ?_
        refine seq_skip rfl rfl h8 ?_
        refine seq_run0 (stp_pick_f rfl (bFF h17) rfl) ?_
        refine seq_run0 (stp_move (.dat _) rfl) ?_
        refine seq_skip rfl rfl rfl ?_
        refine seq_skip rfl rfl rfl ?_
        refine seq_skip rfl rfl rfl ?_
        refine seq_run0 (stp_pick_f rfl rfl rfl) ?_
        refine seq_run0 (stp_assign (.dat _) rfl) ?_
        exact ⟨false, H, ⟨rfl, trivial⟩, trivial⟩
    · have h18 := un2 h4
      replace H := iff_ h18 H
      refine seq_skip rfl rfl h4 ?_
      refine seq_skip rfl rfl h4 ?_
      refine seq_skip rfl rfl h4 ?_
      refine seq_run0 (stp_pick_f rfl (bFF h18) rfl) ?_
      refine seq_run0 (stp_move (.dat _) rfl) ?_
      refine seq_skip rfl rfl rfl ?_
      refine seq_skip rfl rfl rfl ?_
      refine seq_run0 (stp_pick_f rfl rfl rfl) ?_
      refine seq_run0 (stp_move (.dat _) rfl) ?_
      refine seq_skip rfl rfl rfl ?_
      refine seq_skip rfl rfl rfl ?_
      refine seq_skip rfl rfl rfl ?_
      refine seq_run0 (stp_pick_f rfl rfl rfl) ?_
      refine seq_run0 (stp_assign (.dat _) rfl) ?_
      exact ⟨false, H, ⟨rfl, trivial⟩, trivial⟩
  · rintro v19 H
    replace H : gateref2_pathForm_J1 v19 = some r := H
    unfold gateref2_pathForm_J1 at H
    refine awp_ret ?_
    cases H
    exact ⟨trivial, .inl rfl, trivial⟩
theorem k_gateref2_queryForm (s1 : Bs) (r : (Bool)) (H : m_gateref2_queryForm s1 = some r) : Fn Tryz.prog 77 [vstr s1] (resOf [vbool r]) := by
  refine ⟨by kernel_rfl, pure_of (us := [vbool r]) Tryz.func77 rfl rfl rfl rfl fun X hN => ?_⟩
  unfold m_gateref2_queryForm at H
  refine awp_seq ?_
  refine awp_plain hN rfl ?_
  refine seq_run0 (stp_assign (.dat _) rfl) ?_
  refine awp_joinE (ι := Bool) (fun i => [(2, .dat (vbool i))]) (fun i => []) (fun i => gateref2_queryForm_J1 i = some r) (fun i => rfl) ?_ ?_
  · skip
    refine awp_plain hN rfl ?_
    refine seq_run0 (stp_move (.dat _) rfl) ?_
    refine seq_run0 (stp_len_str tyU9 rfl) ?_
    refine seq_run0 (stp_leq rfl rfl) ?_
    refine seq_run0 (stp_move (.dat _) rfl) ?_
    refine seq_split (j := 3) rfl rfl (fun h2 => ?_) (fun h2 => ?_) rfl
    · have h3 := un1 h2
      replace H := ift h3 H
      refine seq_g0 rfl rfl h2 (stp_move (.dat _) rfl) ?_
      obtain ⟨r4, h5, H⟩ := bnd H
      refine seq_g0 rfl rfl h2 (stp_call (k_gateref2_visible s1 33 r4 h5) ⟨.inl rfl, .inl rfl, trivial⟩) ?_
      refine seq_run0 (stp_pick_t rfl (bTT h3) rfl) ?_
      refine seq_run0 (stp_move (.dat _) rfl) ?_
      refine seq_split (j := 7) rfl rfl (fun h6 => ?_) (fun h6 => ?_) rfl
      · have h7 := un1 h6
        replace H := ift h7 H
        refine seq_g0 rfl rfl h6 (stp_move (.dat _) rfl) ?_
        obtain ⟨r8, h9, H⟩ := bnd H
        refine seq_g0 rfl rfl h6 (stp_call (k_strings_Contains s1 [35] r8 h9) ⟨.inl rfl, .inl rfl, trivial⟩) ?_
        refine seq_g0 rfl rfl h6 (stp_not rfl) ?_
        refine seq_run0 (stp_pick_t rfl (bTT h7) rfl) ?_
        refine seq_run0 (stp_assign (.dat _) rfl) ?_
        exact ⟨!r8, H, ⟨rfl, trivial⟩, trivial⟩
      · have h10 := un2 h6
        replace H := iff_ h10 H
        refine seq_skip rfl rfl h6 ?_
        refine seq_skip rfl rfl h6 ?_
        refine seq_skip rfl rfl h6 ?_
        refine seq_run0 (stp_pick_f rfl (bFF h10) rfl) ?_
        refine seq_run0 (stp_assign (.dat _) rfl) ?_
        exact ⟨false, H, ⟨rfl, trivial⟩, trivial⟩
    · have h11 := un2 h2
      replace H := iff_ h11 H
      refine seq_skip rfl rfl h2 ?_
      refine seq_skip rfl rfl h2 ?_
      refine seq_run0 (stp_pick_f rfl (bFF h11) rfl) ?_
      refine seq_run0 (stp_move (.dat _) rfl) ?_
      refine seq_skip rfl rfl rfl ?_
      refine seq_skip rfl rfl rfl ?_
      refine seq_skip rfl rfl rfl ?_
      refine seq_run0 (stp_pick_f rfl rfl rfl) ?_
      refine seq_run0 (stp_assign (.dat _) rfl) ?_
      exact ⟨false, H, ⟨rfl, trivial⟩, trivial⟩
  · rintro v12 H
    replace H : gateref2_queryForm_J1 v12 = some r := H
    unfold gateref2_queryForm_J1 at H
    refine awp_ret ?_
    cases H
    exact ⟨trivial, .inl rfl, trivial⟩
theorem k_gateref2_RequestFault (r1 : S_api_Request) (r : (Int)) (H : m_gateref2_RequestFault r1 = some r) : Fn Tryz.prog 14 [vagg (C_api_Request r1)] (resOf [vint r]) := by
  refine ⟨by kernel_rfl, pure_of (us := [vint r]) Tryz.func14 rfl rfl rfl rfl fun X hN => ?_⟩
  unfold m_gateref2_RequestFault at H
  refine awp_seq ?_
  refine awp_plain hN rfl ?_
  refine seq_run2 (stp_boxA 1 rfl) rfl ?_
  refine seq_run0 (stp_assign (.dat _) rfl) ?_
  refine awp_seq ?_
  refine awp_block ?_
  refine awp_seq ?_
  refine awp_plain hN rfl ?_
  refine seq_run0 (stp_fldP tyF29_0 rfl) ?_
  refine seq_run1 (stp_load1 tyS3 rfl rfl) rfl ?_
  obtain ⟨r2, h3, H⟩ := bnd H
  refine seq_run0 (stp_call (k_gateref2_Moment r1.At r2 h3) ⟨.inl rfl, trivial⟩) ?_
  refine seq_run0 (stp_not rfl) ?_
  refine seq_run0 (stp_assign (.dat _) rfl) ?_
  refine awp_cond _ rfl (fun h4 => ?_) (fun h4 => ?_)
  · replace H := ift h4 H
    refine awp_seq ?_
    refine awp_plain hN rfl ?_
    refine seq_run0 (stp_assign (.dat _) rfl) ?_
    refine awp_ret ?_
    cases H
    exact ⟨trivial, .inl rfl, trivial⟩
  · replace H := iff_ h4 H
    refine awp_seq ?_
    refine awp_plain hN rfl ?_
    refine seq_run0 (stp_fldP tyF29_1 rfl) ?_
    refine seq_run1 (stp_load1 tyS9 rfl rfl) rfl ?_
    obtain ⟨r5, h6, H⟩ := bnd H
    refine seq_run0 (stp_call (k_gateref2_Token r1.Method r5 h6) ⟨.inl rfl, trivial⟩) ?_
    refine seq_run0 (stp_not rfl) ?_
    refine seq_run0 (stp_assign (.dat _) rfl) ?_
    refine awp_cond _ rfl (fun h7 => ?_) (fun h7 => ?_)
    · replace H := ift h7 H
      refine awp_seq ?_
      refine awp_plain hN rfl ?_
      refine seq_run0 (stp_assign (.dat _) rfl) ?_
      refine awp_ret ?_
      cases H
      exact ⟨trivial, .inl rfl, trivial⟩
    · replace H := iff_ h7 H
      refine awp_skip ?_
      refine awp_seq ?_
      refine awp_seq ?_
      refine awp_plain hN rfl ?_
      refine seq_run0 (stp_fldP tyF29_2 rfl) ?_
      refine seq_run1 (stp_load1 tyS9 rfl rfl) rfl ?_
      obtain ⟨r8, h9, H⟩ := bnd H
      refine seq_run0 (stp_call (k_gateref2_HostOf r1.Host r8 h9) ⟨.inl rfl, trivial⟩) ?_
      refine seq_run0 (stp_move (.dat _) rfl) ?_
      refine seq_run0 (stp_ext rfl rfl) ?_
      refine seq_run0 (stp_ext rfl rfl) ?_
      refine seq_run0 (stp_assign (.dat _) rfl) ?_
      refine seq_run0 (stp_assign (.dat _) rfl) ?_
      refine awp_seq ?_
      refine awp_plain hN rfl ?_
      refine seq_run0 (stp_move (.dat _) rfl) ?_
      refine seq_run0 (stp_neq rfl rfl) ?_
      refine awp_cond _ rfl (fun h10 => ?_) (fun h10 => ?_)
      · replace H := ift h10 H
        refine awp_seq ?_
        refine awp_plain hN rfl ?_
        refine seq_run0 (stp_move (.dat _) rfl) ?_
        refine seq_run0 (stp_assign (.dat _) rfl) ?_
        refine awp_ret ?_
        cases H
        exact ⟨trivial, .inl rfl, trivial⟩
      · replace H := iff_ h10 H
        refine awp_skip ?_
        refine awp_seq ?_
        refine awp_joinE (ι := Bool) (fun i => [(1, .ptr 1 0), (40, .dat (vbool i))]) (fun i => [(1, .box none 29 [.dat (vint r1.At), .dat (vstr r1.Method), .dat (vstr r1.Host), .dat (vstr r1.Path), .dat (vstr r1.Query), .dat (vstr r1.From), .dat (vlst (List.map C_api_Header r1.Headers)), .dat (vstr r1.Body)])]) (fun i => gateref2_RequestFault_J1 r1 i = some r) (fun i => rfl) ?_ ?_
        · skip
          refine awp_plain hN rfl ?_
          refine seq_run0 (stp_fldP tyF29_3 rfl) ?_
          refine seq_run1 (stp_load1 tyS9 rfl rfl) rfl ?_
          obtain ⟨r11, h12, H⟩ := bnd H
          refine seq_run0 (stp_call (k_gateref2_pathForm r1.Path r11 h12) ⟨.inl rfl, trivial⟩) ?_
          refine seq_run0 (stp_not rfl) ?_
          refine seq_run0 (stp_move (.dat _) rfl) ?_
          refine seq_split (j := 4) rfl rfl (fun h13 => ?_) (fun h13 => ?_) rfl
          · have h14 := un3 h13
            replace H := iff_ h14 H
            refine seq_g0 rfl rfl h13 (stp_fldP tyF29_4 rfl) ?_
            refine seq_g1 rfl rfl h13 (stp_load1 tyS9 rfl rfl) rfl ?_
            obtain ⟨r15, h16, H⟩ := bnd H
            refine seq_g0 rfl rfl h13 (stp_call (k_gateref2_queryForm r1.Query r15 h16) ⟨.inl rfl, trivial⟩) ?_
            refine seq_g0 rfl rfl h13 (stp_not rfl) ?_
            refine seq_run0 (stp_pick_f rfl (bFF h14) rfl) ?_
            refine seq_run0 (stp_move (.dat _) rfl) ?_
            refine seq_split (j := 10) rfl rfl (fun h17 => ?_) (fun h17 => ?_) rfl
            · have h18 := un3 h17
              replace H := iff_ h18 H
              refine seq_g0 rfl rfl h17 (stp_fldP tyF29_5 rfl) ?_
              refine seq_g1 rfl rfl h17 (stp_load1 tyS9 rfl rfl) rfl ?_
              obtain ⟨r19, h20, H⟩ := bnd H
              refine seq_g0 rfl rfl h17 (stp_call (k_gateref2_Field r1.From r19 h20) ⟨.inl rfl, trivial⟩) ?_
              refine seq_g0 rfl rfl h17 (stp_not rfl) ?_
              refine seq_run0 (stp_pick_f rfl (bFF h18) rfl) ?_
              exact ⟨!r19, H, ⟨rfl, rfl, trivial⟩, ⟨rfl, trivial⟩⟩
            · have h21 := un4 h17
              replace H := ift h21 H
              refine seq_skip rfl rfl h17 ?_
              refine seq_skip rfl rfl h17 ?_
              refine seq_skip rfl rfl h17 ?_
              refine seq_skip rfl rfl h17 ?_
              refine seq_run0 (stp_pick_t rfl (bTT h21) rfl) ?_
              exact ⟨true, H, ⟨rfl, rfl, trivial⟩, ⟨rfl, trivial⟩⟩
          · have h22 := un4 h13
            replace H := ift h22 H
            refine seq_skip rfl rfl h13 ?_
            refine seq_skip rfl rfl h13 ?_
            refine seq_skip rfl rfl h13 ?_
            refine seq_skip rfl rfl h13 ?_
            refine seq_run0 (stp_pick_t rfl (bTT h22) rfl) ?_
            refine seq_run0 (stp_move (.dat _) rfl) ?_
            refine seq_skip rfl rfl rfl ?_
            refine seq_skip rfl rfl rfl ?_
            refine seq_skip rfl rfl rfl ?_
            refine seq_skip rfl rfl rfl ?_
            refine seq_run0 (stp_pick_t rfl rfl rfl) ?_
            exact ⟨true, H, ⟨rfl, rfl, trivial⟩, ⟨rfl, trivial⟩⟩
        · rintro v23 H
          replace H : gateref2_RequestFault_J1 r1 v23 = some r := H
          unfold gateref2_RequestFault_J1 at H
          refine awp_cond _ rfl (fun h24 => ?_) (fun h24 => ?_)
          · replace H := ift h24 H
            refine awp_seq ?_
            refine awp_plain hN rfl ?_
            refine seq_run0 (stp_assign (.dat _) rfl) ?_
            refine awp_ret ?_
            cases H
            exact ⟨trivial, .inl rfl, trivial⟩
          · replace H := iff_ h24 H
            refine awp_skip ?_
            refine awp_seq ?_
            refine awp_seq ?_
            refine awp_plain hN rfl ?_
            refine seq_run0 (stp_fldP tyF29_6 rfl) ?_
            refine seq_run1 (stp_load1 tyS26 rfl rfl) rfl ?_
            obtain ⟨r25, h26, H⟩ := bnd H
            refine seq_run0 (stp_call (k_gateref2_HeadersFault r1.Headers r25 h26) ⟨.inl rfl, trivial⟩) ?_
            refine seq_run0 (stp_assign (.dat _) rfl) ?_
            refine awp_seq ?_
            refine awp_plain hN rfl ?_
            refine seq_run0 (stp_move (.dat _) rfl) ?_
            refine seq_run0 (stp_neq rfl rfl) ?_
            refine awp_cond _ rfl (fun h27 => ?_) (fun h27 => ?_)
            · replace H := ift h27 H
              refine awp_seq ?_
              refine awp_plain hN rfl ?_
              refine seq_run0 (stp_move (.dat _) rfl) ?_
              refine seq_run0 (stp_assign (.dat _) rfl) ?_
              refine awp_ret ?_
              cases H
              exact ⟨trivial, .inl rfl, trivial⟩
            · replace H := iff_ h27 H
              refine awp_skip ?_
              refine awp_seq ?_
              refine awp_seq ?_
              refine awp_plain hN rfl ?_
              refine seq_run0 (stp_fldP tyF29_7 rfl) ?_
              refine seq_run1 (stp_load1 tyS9 rfl rfl) rfl ?_
              refine seq_run0 (stp_len_str tyU9 rfl) ?_
              refine seq_run0 (stp_gtr rfl rfl) ?_
              refine awp_cond _ rfl (fun h28 => ?_) (fun h28 => ?_)
              · replace H := ift h28 H
                refine awp_seq ?_
                refine awp_plain hN rfl ?_
                refine seq_run0 (stp_assign (.dat _) rfl) ?_
                refine awp_ret ?_
                cases H
                exact ⟨trivial, .inl rfl, trivial⟩
              · replace H := iff_ h28 H
                refine awp_skip ?_
                refine awp_seq ?_
                refine awp_plain hN rfl ?_
                refine seq_run0 (stp_assign (.dat _) rfl) ?_
                refine awp_ret ?_
                cases H
                exact ⟨trivial, .inl rfl, trivial⟩
theorem k_message_CheckResponse (a1 : S_api_Response) (r : (Int)) (H : m_message_CheckResponse a1 = some r) : Fn Tryz.prog 15 [vagg (C_api_Response a1)] (resOf [vint r]) := by
  refine ⟨by kernel_rfl, pure_of (us := [vint r]) Tryz.func15 rfl rfl rfl rfl fun X hN => ?_⟩
  unfold m_message_CheckResponse at H
  refine awp_seq ?_
  refine awp_plain hN rfl ?_
  refine seq_run2 (stp_boxA 1 rfl) rfl ?_
  refine seq_run0 (stp_assign (.dat _) rfl) ?_
  refine awp_seq ?_
  refine awp_seq ?_
  refine awp_plain hN rfl ?_
  refine seq_run0 (stp_fldP tyF32_0 rfl) ?_
  refine seq_run1 (stp_load1 tyS3 rfl rfl) rfl ?_
  obtain ⟨r2, h3, H⟩ := bnd H
  refine seq_run0 (stp_call (k_kit_Outside a1.Status 100 599 r2 h3) ⟨.inl rfl, .inl rfl, .inl rfl, trivial⟩) ?_
  refine awp_cond _ rfl (fun h4 => ?_) (fun h4 => ?_)
  · replace H := ift h4 H
    refine awp_seq ?_
    refine awp_plain hN rfl ?_
    refine seq_run0 (stp_assign (.dat _) rfl) ?_
    refine awp_ret ?_
    cases H
    exact ⟨trivial, .inl rfl, trivial⟩
  · replace H := iff_ h4 H
    refine awp_skip ?_
    refine awp_seq ?_
    refine awp_seq ?_
    refine awp_plain hN rfl ?_
    refine seq_run0 (stp_fldP tyF32_1 rfl) ?_
    refine seq_run1 (stp_load1 tyS26 rfl rfl) rfl ?_
    obtain ⟨r5, h6, H⟩ := bnd H
    refine seq_run0 (stp_call (k_message_CheckHeaders a1.Headers r5 h6) ⟨.inl rfl, trivial⟩) ?_
    refine seq_run0 (stp_assign (.dat _) rfl) ?_
    refine awp_seq ?_
    refine awp_plain hN rfl ?_
    refine seq_run0 (stp_move (.dat _) rfl) ?_
    refine seq_run0 (stp_neq rfl rfl) ?_
    refine awp_cond _ rfl (fun h7 => ?_) (fun h7 => ?_)
    · replace H := ift h7 H
      refine awp_seq ?_
      refine awp_plain hN rfl ?_
      refine seq_run0 (stp_move (.dat _) rfl) ?_
      refine seq_run0 (stp_assign (.dat _) rfl) ?_
      refine awp_ret ?_
      cases H
      exact ⟨trivial, .inl rfl, trivial⟩
    · replace H := iff_ h7 H
      refine awp_skip ?_
      refine awp_seq ?_
      refine awp_seq ?_
      refine awp_plain hN rfl ?_
      refine seq_run0 (stp_fldP tyF32_2 rfl) ?_
      refine seq_run1 (stp_load1 tyS9 rfl rfl) rfl ?_
      refine seq_run0 (stp_len_str tyU9 rfl) ?_
      refine seq_run0 (stp_gtr rfl rfl) ?_
      refine awp_cond _ rfl (fun h8 => ?_) (fun h8 => ?_)
      · replace H := ift h8 H
        refine awp_seq ?_
        refine awp_plain hN rfl ?_
        refine seq_run0 (stp_assign (.dat _) rfl) ?_
        refine awp_ret ?_
        cases H
        exact ⟨trivial, .inl rfl, trivial⟩
      · replace H := iff_ h8 H
        refine awp_skip ?_
        refine awp_seq ?_
        refine awp_plain hN rfl ?_
        refine seq_run0 (stp_assign (.dat _) rfl) ?_
        refine awp_ret ?_
        cases H
        exact ⟨trivial, .inl rfl, trivial⟩
theorem k_gateref2_ResponseFault (a1 : S_api_Response) (r : (Int)) (H : m_gateref2_ResponseFault a1 = some r) : Fn Tryz.prog 16 [vagg (C_api_Response a1)] (resOf [vint r]) := by
  refine ⟨by kernel_rfl, pure_of (us := [vint r]) Tryz.func16 rfl rfl rfl rfl fun X hN => ?_⟩
  unfold m_gateref2_ResponseFault at H
  refine awp_seq ?_
  refine awp_plain hN rfl ?_
  refine seq_run2 (stp_boxA 1 rfl) rfl ?_
  refine seq_run0 (stp_assign (.dat _) rfl) ?_
  refine awp_seq ?_
  refine awp_seq ?_
  refine awp_plain hN rfl ?_
  refine seq_run0 (stp_fldP tyF32_0 rfl) ?_
  refine seq_run1 (stp_load1 tyS3 rfl rfl) rfl ?_
  obtain ⟨r2, h3, H⟩ := bnd H
  refine seq_run0 (stp_call (k_gateref2_in a1.Status 100 599 r2 h3) ⟨.inl rfl, .inl rfl, .inl rfl, trivial⟩) ?_
  refine seq_run0 (stp_not rfl) ?_
  refine awp_cond _ rfl (fun h4 => ?_) (fun h4 => ?_)
  · replace H := ift h4 H
    refine awp_seq ?_
    refine awp_plain hN rfl ?_
    refine seq_run0 (stp_assign (.dat _) rfl) ?_
    refine awp_ret ?_
    cases H
    exact ⟨trivial, .inl rfl, trivial⟩
  · replace H := iff_ h4 H
    refine awp_skip ?_
    refine awp_seq ?_
    refine awp_seq ?_
    refine awp_plain hN rfl ?_
    refine seq_run0 (stp_fldP tyF32_1 rfl) ?_
    refine seq_run1 (stp_load1 tyS26 rfl rfl) rfl ?_
    obtain ⟨r5, h6, H⟩ := bnd H
    refine seq_run0 (stp_call (k_gateref2_HeadersFault a1.Headers r5 h6) ⟨.inl rfl, trivial⟩) ?_
    refine seq_run0 (stp_assign (.dat _) rfl) ?_
    refine awp_seq ?_
    refine awp_plain hN rfl ?_
    refine seq_run0 (stp_move (.dat _) rfl) ?_
    refine seq_run0 (stp_neq rfl rfl) ?_
    refine awp_cond _ rfl (fun h7 => ?_) (fun h7 => ?_)
    · replace H := ift h7 H
      refine awp_seq ?_
      refine awp_plain hN rfl ?_
      refine seq_run0 (stp_move (.dat _) rfl) ?_
      refine seq_run0 (stp_assign (.dat _) rfl) ?_
      refine awp_ret ?_
      cases H
      exact ⟨trivial, .inl rfl, trivial⟩
    · replace H := iff_ h7 H
      refine awp_skip ?_
      refine awp_seq ?_
      refine awp_seq ?_
      refine awp_plain hN rfl ?_
      refine seq_run0 (stp_fldP tyF32_2 rfl) ?_
      refine seq_run1 (stp_load1 tyS9 rfl rfl) rfl ?_
      refine seq_run0 (stp_len_str tyU9 rfl) ?_
      refine seq_run0 (stp_gtr rfl rfl) ?_
      refine awp_cond _ rfl (fun h8 => ?_) (fun h8 => ?_)
      · replace H := ift h8 H
        refine awp_seq ?_
        refine awp_plain hN rfl ?_
        refine seq_run0 (stp_assign (.dat _) rfl) ?_
        refine awp_ret ?_
        cases H
        exact ⟨trivial, .inl rfl, trivial⟩
      · replace H := iff_ h8 H
        refine awp_skip ?_
        refine awp_seq ?_
        refine awp_plain hN rfl ?_
        refine seq_run0 (stp_assign (.dat _) rfl) ?_
        refine awp_ret ?_
        cases H
        exact ⟨trivial, .inl rfl, trivial⟩
theorem kb_strings_Builder_WriteByte (l1 : (List Int)) (c2 : Int) (r : (Int × (List Int))) (H : m_strings_Builder_WriteByte l1 c2 = some r) : FnG Tryz.prog 143 [.ptr 0 0, .dat (vval (.int .u8 c2))] [(0, .box (some 0) 110 [.nptr 0, .row 1 l1.length]), (1, .row 5 1 (List.map C_uint8 l1))] (.dat (resOf [verr r.1])) [(0, .box (some 0) 110 [.nptr 0, .row 900 r.2.length]), (900, .row 5 1 (List.map C_uint8 r.2))] := by
  refine fnG_of (by kernel_rfl) Tryz.func143 rfl rfl rfl rfl fun X A hN => ?_
  refine awp_cv ?_
  unfold m_strings_Builder_WriteByte at H
  refine awp_seq ?_
  refine awp_plain hN rfl ?_
  refine seq_run0 (stp_assign (.dat _) rfl) ?_
  refine awp_seq ?_
  refine awp_plain hN rfl ?_
  refine seq_run0 (stp_move (.ptr _ _) rfl) ?_
  refine seq_run2 (stp_cc cc_prog rfl) rfl ?_
  refine awp_seq ?_
  refine awp_plain hN rfl ?_
  refine seq_run0 (stp_move (.ptr _ _) rfl) ?_
  refine seq_run0 (stp_move (.ptr _ _) rfl) ?_
  refine seq_run0 (stp_nilP rfl) ?_
  refine seq_run0 (stp_fldP tyF110_1 rfl) ?_
  refine seq_run1 (stp_load1 tyS46 rfl rfl) rfl ?_
  refine seq_run0 (stp_move (.dat _) rfl) ?_
  refine seq_run0 (stp_dat (u' := vlst (List.map C_uint8 [c2])) (stp_lit [[_]] tyL46 ⟨rfl, .inl ⟨_, rfl, rfl, rfl⟩, rfl, trivial⟩ rfl rfl) rfl) ?_
  obtain ⟨h3, H⟩ := gif H
  refine seq_run2 (t_app tyL46 (fun _ => rfl) rfl rfl rfl ⟨by simp, by simpa using h3⟩ rfl) rfl ?_
  refine seq_run0 (stp_nilP rfl) ?_
  refine seq_run0 (stp_fldP tyF110_1 rfl) ?_
  refine seq_run4 (stp_storeS tyS46 rfl rfl (by rw [List.length_map]) rfl) rfl rfl ?_
  refine awp_seq ?_
  refine awp_plain hN rfl ?_
  refine seq_run0 (stp_assign (.dat _) rfl) ?_
  refine awp_ret ?_
  cases H
  show Cv _ _ _ _
  refine cv_ren (rn [(1, 900)]) [(4, .dat (verr 0))] [(0, .box (some (A.bl 0)) 110 [.nptr 0, .row 1 ((l1 ++ [c2]).length)]), (1, .row 5 1 (List.map C_uint8 (l1 ++ [c2])))] ⟨rfl, trivial⟩ ⟨rfl, rfl, trivial⟩ rfl rfl ?_
  exact ⟨trivial, [(4, .dat (verr 0))], ⟨rfl, trivial⟩, ⟨rfl, rfl, trivial⟩, rfl, .inl ⟨[verr 0], ⟨rfl, trivial⟩, rfl⟩⟩
theorem k_message_isHex (c1 : Int) (r : (Bool)) (H : m_message_isHex c1 = some r) : Fn Tryz.prog 207 [vval (.int .u8 c1)] (resOf [vbool r]) := by
  refine ⟨by kernel_rfl, pure_of (us := [vbool r]) Tryz.func207 rfl rfl rfl rfl fun X hN => ?_⟩
  unfold m_message_isHex at H
  refine awp_seq ?_
  refine awp_plain hN rfl ?_
  refine seq_run0 (stp_assign (.dat _) rfl) ?_
  refine awp_seq ?_
  refine awp_plain hN rfl ?_
  refine seq_run0 (stp_move (.dat _) rfl) ?_
  obtain ⟨r2, h3, H⟩ := bnd H
  refine seq_run0 (stp_call (k_message_isDigit c1 r2 h3) ⟨.inl rfl, trivial⟩) ?_
  refine seq_run0 (stp_move (.dat _) rfl) ?_
  refine seq_aF rfl rfl (fun hc => stp_move (.dat _) rfl) ?_
  refine seq_aF rfl rfl (fun hc => stp_geq (cnd (c := (!r2)) hc) rfl) ?_
  refine seq_aF rfl rfl (fun hc => stp_move (.dat _) (cnd (c := (!r2)) hc)) ?_
  refine seq_bT rfl rfl (fun hc => stp_move (.dat _) rfl) ?_
  refine seq_bT rfl rfl (fun hc => stp_leq (cnd (c := ((!r2) && (decide (97 ≤ c1)))) hc) rfl) ?_
  refine seq_aF rfl rfl (fun hc => stp_pick_and (cnd (c := (!r2)) hc) (fun hb => (cnd (c := ((!r2) && (decide (97 ≤ c1)))) (andI hc hb))) rfl) ?_
  refine seq_run0 (stp_pick_or rfl rfl (fun hb => (cnd (c := (!r2)) (notI hb)))) ?_
  refine seq_run0 (stp_move (.dat _) rfl) ?_
  refine seq_aF rfl rfl (fun hc => stp_move (.dat _) rfl) ?_
  refine seq_aF rfl rfl (fun hc => stp_geq (cnd (c := (!(r2 || ((decide (97 ≤ c1)) && (decide (c1 ≤ 102)))))) hc) rfl) ?_
  refine seq_aF rfl rfl (fun hc => stp_move (.dat _) (cnd (c := (!(r2 || ((decide (97 ≤ c1)) && (decide (c1 ≤ 102)))))) hc)) ?_
  refine seq_bT rfl rfl (fun hc => stp_move (.dat _) rfl) ?_
  refine seq_bT rfl rfl (fun hc => stp_leq (cnd (c := ((!(r2 || ((decide (97 ≤ c1)) && (decide (c1 ≤ 102))))) && (decide (65 ≤ c1)))) hc) rfl) ?_
  refine seq_aF rfl rfl (fun hc => stp_pick_and (cnd (c := (!(r2 || ((decide (97 ≤ c1)) && (decide (c1 ≤ 102)))))) hc) (fun hb => (cnd (c := ((!(r2 || ((decide (97 ≤ c1)) && (decide (c1 ≤ 102))))) && (decide (65 ≤ c1)))) (andI hc hb))) rfl) ?_
  refine seq_run0 (stp_pick_or rfl rfl (fun hb => (cnd (c := (!(r2 || ((decide (97 ≤ c1)) && (decide (c1 ≤ 102)))))) (notI hb)))) ?_
  refine seq_run0 (stp_assign (.dat _) rfl) ?_
  refine awp_ret ?_
  cases H
  exact ⟨trivial, .inl rfl, trivial⟩
theorem k_message_isUnit (s1 : Bs) (v2 : Int) (r : (Bool)) (H : m_message_isUnit s1 v2 = some r) : Fn Tryz.prog 156 [vstr s1, vint v2] (resOf [vbool r]) := by
  refine ⟨by kernel_rfl, pure_of (us := [vbool r]) Tryz.func156 rfl rfl rfl rfl fun X hN => ?_⟩
  unfold m_message_isUnit at H
  refine awp_seq ?_
  refine awp_plain hN rfl ?_
  refine seq_run0 (stp_assign (.dat _) rfl) ?_
  refine awp_joinE (ι := Bool) (fun i => [(4, .dat (vbool i))]) (fun i => []) (fun i => message_isUnit_J1 i = some r) (fun i => rfl) ?_ ?_
  · skip
    refine awp_plain hN rfl ?_
    refine seq_run0 (stp_move (.dat _) rfl) ?_
    refine seq_run0 (stp_wrap _ rfl rfl (.inl ⟨rfl, rfl⟩)) ?_
    refine seq_run0 (stp_move (.dat _) rfl) ?_
    refine seq_run0 (stp_len_str tyU9 rfl) ?_
    refine seq_run0 (stp_lss rfl rfl) ?_
    refine seq_run0 (stp_move (.dat _) rfl) ?_
    refine seq_split (j := 5) rfl rfl (fun h3 => ?_) (fun h3 => ?_) rfl
    · have h4 := un1 h3
      replace H := ift h4 H
      refine seq_g0 rfl rfl h3 (stp_move (.dat _) rfl) ?_
      refine seq_g0 rfl rfl h3 (stp_move (.dat _) rfl) ?_
      refine seq_g0 rfl rfl h3 (stp_wrap _ rfl rfl (.inl ⟨rfl, rfl⟩)) ?_
      obtain ⟨x5, h6, H⟩ := bnd H
      refine seq_g0 rfl rfl h3 (t_byteI tyU9 rfl rfl h6) ?_
      obtain ⟨r7, h8, H⟩ := bnd H
      refine seq_g0 rfl rfl h3 (stp_call (k_message_isHex (x5.toNat : Int) r7 h8) ⟨.inl rfl, trivial⟩) ?_
      refine seq_run0 (stp_pick_t rfl (bTT h4) rfl) ?_
      refine seq_run0 (stp_move (.dat _) rfl) ?_
      refine seq_split (j := 12) rfl rfl (fun h9 => ?_) (fun h9 => ?_) rfl
      · have h10 := un1 h9
        replace H := ift h10 H
        refine seq_g0 rfl rfl h9 (stp_move (.dat _) rfl) ?_
        refine seq_g0 rfl rfl h9 (stp_move (.dat _) rfl) ?_
        refine seq_g0 rfl rfl h9 (stp_wrap _ rfl rfl (.inl ⟨rfl, rfl⟩)) ?_
        obtain ⟨x11, h12, H⟩ := bnd H
        refine seq_g0 rfl rfl h9 (t_byteI tyU9 rfl rfl h12) ?_
        obtain ⟨r13, h14, H⟩ := bnd H
        refine seq_g0 rfl rfl h9 (stp_call (k_message_isHex (x11.toNat : Int) r13 h14) ⟨.inl rfl, trivial⟩) ?_
        refine seq_run0 (stp_pick_t rfl (bTT h10) rfl) ?_
        refine seq_run0 (stp_assign (.dat _) rfl) ?_
        exact ⟨r13, H, ⟨rfl, trivial⟩, trivial⟩
      · have h15 := un2 h9
        replace H := iff_ h15 H
        refine seq_skip rfl rfl h9 ?_
        refine seq_skip rfl rfl h9 ?_
        refine seq_skip rfl rfl h9 ?_
        refine seq_skip rfl rfl h9 ?_
        refine seq_skip rfl rfl h9 ?_
        refine seq_run0 (stp_pick_f rfl (bFF h15) rfl) ?_
        refine seq_run0 (stp_assign (.dat _) rfl) ?_
        exact ⟨false, H, ⟨rfl, trivial⟩, trivial⟩
    · have h16 := un2 h3
      replace H := iff_ h16 H
      refine seq_skip rfl rfl h3 ?_
      refine seq_skip rfl rfl h3 ?_
      refine seq_skip rfl rfl h3 ?_
      refine seq_skip rfl rfl h3 ?_
      refine seq_skip rfl rfl h3 ?_
      refine seq_run0 (stp_pick_f rfl (bFF h16) rfl) ?_
      refine seq_run0 (stp_move (.dat _) rfl) ?_
      refine seq_skip rfl rfl rfl ?_
      refine seq_skip rfl rfl rfl ?_
      refine seq_skip rfl rfl rfl ?_
      refine seq_skip rfl rfl rfl ?_
      refine seq_skip rfl rfl rfl ?_
      refine seq_run0 (stp_pick_f rfl rfl rfl) ?_
      refine seq_run0 (stp_assign (.dat _) rfl) ?_
      exact ⟨false, H, ⟨rfl, trivial⟩, trivial⟩
  · rintro v17 H
    replace H : message_isUnit_J1 v17 = some r := H
    unfold message_isUnit_J1 at H
    refine awp_ret ?_
    cases H
    exact ⟨trivial, .inl rfl, trivial⟩
theorem k_strconv_ParseUint (s1 : Bs) (base2 : Int) (bitSize3 : Int) (r : (Int × Int)) (H : m_strconv_ParseUint s1 base2 bitSize3 = some r) : Fn Tryz.prog 160 [vstr s1, vint base2, vint bitSize3] (resOf [vval (.int .u64 r.1), verr r.2]) := by
  refine ⟨by kernel_rfl, pure_of (us := [vval (.int .u64 r.1), verr r.2]) Tryz.func160 rfl rfl rfl rfl fun X hN => ?_⟩
  unfold m_strconv_ParseUint at H
  refine awp_seq ?_
  refine awp_plain hN rfl ?_
  refine seq_run0 (stp_assign (.dat _) rfl) ?_
  refine seq_run0 (stp_assign (.dat _) rfl) ?_
  refine awp_seq ?_
  refine awp_plain hN rfl ?_
  refine seq_run0 (stp_move (.dat _) rfl) ?_
  refine seq_run0 (stp_move (.dat _) rfl) ?_
  refine seq_run0 (stp_move (.dat _) rfl) ?_
  obtain ⟨r4, h5, H⟩ := bnd H
  refine seq_run0 (stp_call (k_internal_strconv_ParseUint s1 base2 bitSize3 r4 h5) ⟨.inl rfl, .inl rfl, .inl rfl, trivial⟩) ?_
  refine seq_run0 (stp_move (.dat _) rfl) ?_
  refine seq_run0 (stp_ext rfl rfl) ?_
  refine seq_run0 (stp_ext rfl rfl) ?_
  refine seq_run0 (stp_assign (.dat _) rfl) ?_
  refine seq_run0 (stp_assign (.dat _) rfl) ?_
  refine awp_seq ?_
  refine awp_seq ?_
  refine awp_plain hN rfl ?_
  refine seq_run0 (stp_move (.dat _) rfl) ?_
  refine seq_run0 (stp_errneq (n := r4.2) (show Tryz.prog.underlying 112 = some (.interface (Tryz.prog.methodsAt 112)) from by kernel_rfl) rfl) ?_
  refine awp_cond _ rfl (fun h6 => ?_) (fun h6 => ?_)
  · replace H := ift h6 H
    refine awp_seq ?_
    refine awp_plain hN rfl ?_
    refine seq_run0 (stp_move (.dat _) rfl) ?_
    refine seq_run0 (stp_move (.dat _) rfl) ?_
    refine seq_run0 (stp_move (.dat _) rfl) ?_
    refine seq_run0 (stp_move (.dat _) rfl) ?_
    refine seq_run0 (stp_move (.dat _) rfl) ?_
    obtain ⟨r7, h8, H⟩ := bnd H
    refine seq_run0 (stp_call (k_strconv_toError [80, 97, 114, 115, 101, 85, 105, 110, 116] s1 base2 bitSize3 r4.2 r7 h8) ⟨.inl rfl, .inl rfl, .inl rfl, .inl rfl, .inl rfl, trivial⟩) ?_
    refine seq_run0 (stp_assign (.dat _) rfl) ?_
    refine seq_run0 (stp_assign (.dat _) rfl) ?_
    refine awp_ret ?_
    cases H
    exact ⟨trivial, .inl rfl, .inl rfl, trivial⟩
  · replace H := iff_ h6 H
    refine awp_skip ?_
    refine awp_seq ?_
    refine awp_plain hN rfl ?_
    refine seq_run0 (stp_move (.dat _) rfl) ?_
    refine seq_run0 (stp_assign (.dat _) rfl) ?_
    refine seq_run0 (stp_assign (.dat _) rfl) ?_
    refine awp_ret ?_
    cases H
    exact ⟨trivial, .inl rfl, .inl rfl, trivial⟩
theorem k_message_unit (s1 : Bs) (v2 : Int) (r : (Int)) (H : m_message_unit s1 v2 = some r) : Fn Tryz.prog 157 [vstr s1, vint v2] (resOf [vval (.int .u8 r)]) := by
  refine ⟨by kernel_rfl, pure_of (us := [vval (.int .u8 r)]) Tryz.func157 rfl rfl rfl rfl fun X hN => ?_⟩
  unfold m_message_unit at H
  refine awp_seq ?_
  refine awp_plain hN rfl ?_
  refine seq_run0 (stp_assign (.dat _) rfl) ?_
  refine awp_seq ?_
  refine awp_plain hN rfl ?_
  refine seq_run0 (stp_move (.dat _) rfl) ?_
  refine seq_run0 (stp_move (.dat _) rfl) ?_
  refine seq_run0 (stp_wrap _ rfl rfl (.inl ⟨rfl, rfl⟩)) ?_
  refine seq_run0 (stp_move (.dat _) rfl) ?_
  refine seq_run0 (stp_wrap _ rfl rfl (.inl ⟨rfl, rfl⟩)) ?_
  obtain ⟨l3, h4, H⟩ := bnd H
  refine seq_run0 (t_subS tyU9 rfl rfl rfl h4) ?_
  obtain ⟨r5, h6, H⟩ := bnd H
  refine seq_run0 (stp_call (k_strconv_ParseUint l3 16 8 r5 h6) ⟨.inl rfl, .inl rfl, .inl rfl, trivial⟩) ?_
  refine seq_run0 (stp_move (.dat _) rfl) ?_
  refine seq_run0 (stp_ext rfl rfl) ?_
  refine seq_run0 (stp_ext rfl rfl) ?_
  refine seq_run0 (stp_assign (.dat _) rfl) ?_
  refine seq_run0 (stp_assign (.dat _) rfl) ?_
  refine awp_seq ?_
  refine awp_seq ?_
  refine awp_plain hN rfl ?_
  refine seq_run0 (stp_move (.dat _) rfl) ?_
  refine seq_run0 (stp_errneq (n := r5.2) (show Tryz.prog.underlying 112 = some (.interface (Tryz.prog.methodsAt 112)) from by kernel_rfl) rfl) ?_
  refine awp_cond _ rfl (fun h7 => ?_) (fun h7 => ?_)
  · replace H := ift h7 H
    refine awp_seq ?_
    refine awp_plain hN rfl ?_
    refine seq_run0 (stp_assign (.dat _) rfl) ?_
    refine awp_ret ?_
    cases H
    exact ⟨trivial, .inl rfl, trivial⟩
  · replace H := iff_ h7 H
    refine awp_skip ?_
    refine awp_seq ?_
    refine awp_plain hN rfl ?_
    refine seq_run0 (stp_move (.dat _) rfl) ?_
    refine seq_run0 (stp_conv tyU166 tyU5 rfl) ?_
    refine seq_run0 (stp_assign (.dat _) rfl) ?_
    refine awp_ret ?_
    cases H
    exact ⟨trivial, .inl rfl, trivial⟩
theorem k_message_isFree (c1 : Int) (r : (Bool)) (H : m_message_isFree c1 = some r) : Fn Tryz.prog 158 [vval (.int .u8 c1)] (resOf [vbool r]) := by
  refine ⟨by kernel_rfl, pure_of (us := [vbool r]) Tryz.func158 rfl rfl rfl rfl fun X hN => ?_⟩
  unfold m_message_isFree at H
  refine awp_seq ?_
  refine awp_plain hN rfl ?_
  refine seq_run0 (stp_assign (.dat _) rfl) ?_
  refine awp_joinE (ι := Bool) (fun i => [(2, .dat (vbool i))]) (fun i => []) (fun i => message_isFree_J1 i = some r) (fun i => rfl) ?_ ?_
  · skip
    refine awp_plain hN rfl ?_
    refine seq_run0 (stp_move (.dat _) rfl) ?_
    obtain ⟨r2, h3, H⟩ := bnd H
    refine seq_run0 (stp_call (k_message_isLetter c1 r2 h3) ⟨.inl rfl, trivial⟩) ?_
    refine seq_run0 (stp_move (.dat _) rfl) ?_
    refine seq_split (j := 2) rfl rfl (fun h4 => ?_) (fun h4 => ?_) rfl
    · have h5 := un3 h4
      replace H := iff_ h5 H
      refine seq_g0 rfl rfl h4 (stp_move (.dat _) rfl) ?_
      obtain ⟨r6, h7, H⟩ := bnd H
      refine seq_g0 rfl rfl h4 (stp_call (k_message_isDigit c1 r6 h7) ⟨.inl rfl, trivial⟩) ?_
      refine seq_run0 (stp_pick_f rfl (bFF h5) rfl) ?_
      refine seq_run0 (stp_move (.dat _) rfl) ?_
      refine seq_split (j := 6) rfl rfl (fun h8 => ?_) (fun h8 => ?_) rfl
      · have h9 := un3 h8
        replace H := iff_ h9 H
        refine seq_g0 rfl rfl h8 (stp_move (.dat _) rfl) ?_
        obtain ⟨r10, h11, H⟩ := bnd H
        refine seq_g0 rfl rfl h8 (stp_call (k_strings_IndexByte [45, 46, 95, 126] c1 r10 h11) ⟨.inl rfl, .inl rfl, trivial⟩) ?_
        refine seq_g0 rfl rfl h8 (stp_geq rfl rfl) ?_
        refine seq_run0 (stp_pick_f rfl (bFF h9) rfl) ?_
        refine seq_run0 (stp_assign (.dat _) rfl) ?_
        exact ⟨decide (0 ≤ r10), H, ⟨rfl, trivial⟩, trivial⟩
      · have h12 := un4 h8
        replace H := ift h12 H
        refine seq_skip rfl rfl h8 ?_
        refine seq_skip rfl rfl h8 ?_
        refine seq_skip rfl rfl h8 ?_
        refine seq_run0 (stp_pick_t rfl (bTT h12) rfl) ?_
        refine seq_run0 (stp_assign (.dat _) rfl) ?_
        exact ⟨true, H, ⟨rfl, trivial⟩, trivial⟩
    · have h13 := un4 h4
      replace H := ift h13 H
      refine seq_skip rfl rfl h4 ?_
      refine seq_skip rfl rfl h4 ?_
      refine seq_run0 (stp_pick_t rfl (bTT h13) rfl) ?_
      refine seq_run0 (stp_move (.dat _) rfl) ?_
      refine seq_skip rfl rfl rfl ?_
      refine seq_skip rfl rfl rfl ?_
      refine seq_skip rfl rfl rfl ?_
      refine seq_run0 (stp_pick_t rfl rfl rfl) ?_
      refine seq_run0 (stp_assign (.dat _) rfl) ?_
      exact ⟨true, H, ⟨rfl, trivial⟩, trivial⟩
  · rintro v14 H
    replace H : message_isFree_J1 v14 = some r := H
    unfold message_isFree_J1 at H
    refine awp_ret ?_
    cases H
    exact ⟨trivial, .inl rfl, trivial⟩
theorem k_message_percent (c1 : Int) (r : (Bs)) (H : m_message_percent c1 = some r) : Fn Tryz.prog 159 [vval (.int .u8 c1)] (resOf [vstr r]) := by
  refine ⟨by kernel_rfl, pure_of (us := [vstr r]) Tryz.func159 rfl rfl rfl rfl fun X hN => ?_⟩
  unfold m_message_percent at H
  refine awp_seq ?_
  refine awp_plain hN rfl ?_
  refine seq_run0 (stp_assign (.dat _) rfl) ?_
  refine awp_seq ?_
  refine awp_draw mixed hN rfl rfl ?_
  refine seq_run0 (stp_move (.dat _) rfl) ?_
  refine seq_run0 (stp_dat (stp_shr rfl rfl (by decide)) rfl) ?_
  obtain ⟨x2, h3, H⟩ := bnd H
  refine seq_run0 (t_byteK tyU9 rfl rfl h3) ?_
  refine seq_run0 (stp_move (.dat _) rfl) ?_
  refine seq_run0 (stp_dat (stp_and rfl rfl) rfl) ?_
  obtain ⟨x4, h5, H⟩ := bnd H
  refine seq_run0 (t_byteK tyU9 rfl rfl h5) ?_
  refine seq_run0 (stp_dat (u' := vlst (List.map C_uint8 [37, (x2.toNat : Int), (x4.toNat : Int)])) (stp_lit [[_], [_], [_]] tyL46 ⟨rfl, .inl ⟨_, rfl, rfl, rfl⟩, rfl, rfl, .inl ⟨_, rfl, rfl, rfl⟩, rfl, rfl, .inl ⟨_, rfl, rfl, rfl⟩, rfl, trivial⟩ rfl rfl) rfl) ?_
  refine seq_run0 (stp_convB (C := C_uint8) tyU46 tyU5 tyU9 (fun _ => rfl) rfl) ?_
  refine seq_run0 (stp_assign (.dat _) rfl) ?_
  refine ⟨rfl, ?_⟩
  refine awp_ret ?_
  cases H
  exact ⟨trivial, .inl rfl, trivial⟩
theorem kb_strings_Builder_WriteString (l1 : (List Int)) (s2 : Bs) (r : (Int × Int × (List Int))) (H : m_strings_Builder_WriteString l1 s2 = some r) : FnG Tryz.prog 96 [.ptr 0 0, .dat (vstr s2)] [(0, .box (some 0) 110 [.nptr 0, .row 1 l1.length]), (1, .row 5 1 (List.map C_uint8 l1))] (.dat (resOf [vint r.1, verr r.2.1])) [(0, .box (some 0) 110 [.nptr 0, .row 900 r.2.2.length]), (900, .row 5 1 (List.map C_uint8 r.2.2))] := by
  refine fnG_of (by kernel_rfl) Tryz.func96 rfl rfl rfl rfl fun X A hN => ?_
  refine awp_cv ?_
  unfold m_strings_Builder_WriteString at H
  refine awp_seq ?_
  refine awp_plain hN rfl ?_
  refine seq_run0 (stp_assign (.dat _) rfl) ?_
  refine seq_run0 (stp_assign (.dat _) rfl) ?_
  refine awp_seq ?_
  refine awp_plain hN rfl ?_
  refine seq_run0 (stp_move (.ptr _ _) rfl) ?_
  refine seq_run2 (stp_cc cc_prog rfl) rfl ?_
  refine awp_seq ?_
  refine awp_plain hN rfl ?_
  refine seq_run0 (stp_move (.ptr _ _) rfl) ?_
  refine seq_run0 (stp_move (.ptr _ _) rfl) ?_
  refine seq_run0 (stp_nilP rfl) ?_
  refine seq_run0 (stp_fldP tyF110_1 rfl) ?_
  refine seq_run1 (stp_load1 tyS46 rfl rfl) rfl ?_
  refine seq_run0 (stp_move (.dat _) rfl) ?_
  obtain ⟨h3, H⟩ := gif H
  refine seq_run2 (t_appS (C := C_uint8) (fun _ => rfl) (show tyB8 Tryz.prog 46 9 5 from ⟨by kernel_rfl, by kernel_rfl, by kernel_rfl⟩) rfl rfl rfl h3) rfl ?_
  refine seq_run0 (stp_nilP rfl) ?_
  refine seq_run0 (stp_fldP tyF110_1 rfl) ?_
  refine seq_run4 (stp_storeS tyS46 rfl rfl (by rw [List.length_map]) rfl) rfl rfl ?_
  refine awp_seq ?_
  refine awp_plain hN rfl ?_
  refine seq_run0 (stp_move (.dat _) rfl) ?_
  refine seq_run0 (stp_len_str tyU9 rfl) ?_
  refine seq_run0 (stp_assign (.dat _) rfl) ?_
  refine seq_run0 (stp_assign (.dat _) rfl) ?_
  refine awp_ret ?_
  cases H
  show Cv _ _ _ _
  refine cv_ren (rn [(1, 900)]) [(4, .dat (vint (s2.length : Int))), (5, .dat (verr 0))] [(0, .box (some (A.bl 0)) 110 [.nptr 0, .row 1 ((l1 ++ numsB s2).length)]), (1, .row 5 1 (List.map C_uint8 (l1 ++ numsB s2)))] ⟨rfl, rfl, trivial⟩ ⟨rfl, rfl, trivial⟩ rfl rfl ?_
  exact ⟨trivial, [(4, .dat (vint (s2.length : Int))), (5, .dat (verr 0))], ⟨rfl, rfl, trivial⟩, ⟨rfl, rfl, trivial⟩, rfl, .inl ⟨[vint (s2.length : Int), verr 0], ⟨rfl, rfl, trivial⟩, rfl⟩⟩
end Go.Proofs.YtbejggfkfaibeaaGreatDoor
