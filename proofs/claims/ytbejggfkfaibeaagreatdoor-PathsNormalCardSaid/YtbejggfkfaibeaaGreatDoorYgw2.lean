/- Walks along the models. Printed by a program. -/
import Derived.Test.YtbejggfkfaibeaaGreatDoorYgw1
namespace Go.Proofs.YtbejggfkfaibeaaGreatDoor
open Go.RowKit
set_option linter.unusedVariables false
set_option maxRecDepth 20000
theorem k_strconv_toError (fn s : Bs) (base bits e r : Int) (H : m_strconv_toError fn s base bits e = some r) : Fn Tryz.prog 186 [vstr fn, vstr s, vint base, vint bits, verr e] (resOf [verr r]) := by
  obtain ⟨⟨h1, h2, h3⟩, h4⟩ := gif H
  cases h4
  refine fn_of_callsG (by kernel_rfl) fun M w vs hM h => ?_
  rcases h3 with rfl | rfl
  · have hv := Ts_vals (us := [.string ⟨fn.toArray⟩, .string ⟨s.toArray⟩, .int .i64 base, .int .i64 bits, .iface 218 (.int .i64 2)]) h
    subst hv
    obtain ⟨tp, p, hc⟩ := ErrSyntax_cell hM
    refine (Tryz.strconv_toError_syntax ⟨fn.toArray⟩ ⟨s.toArray⟩ base bits (.iface tp p) w (by simp [ByteArray.size]; omega) hc (.inr ⟨tp, p, rfl⟩)).mono ?_
    rintro e w' ⟨N, rfl, _, _, hb⟩
    exact ⟨_, rfl, ⟨_, _, rfl⟩, Kp.of_below hb⟩
  · have hv := Ts_vals (us := [.string ⟨fn.toArray⟩, .string ⟨s.toArray⟩, .int .i64 base, .int .i64 bits, .iface 218 (.int .i64 1)]) h
    subst hv
    obtain ⟨tp, p, hc⟩ := ErrRange_cell hM
    refine (Tryz.strconv_toError_range ⟨fn.toArray⟩ ⟨s.toArray⟩ base bits (.iface tp p) w (by simp [ByteArray.size]; omega) hc (.inr ⟨tp, p, rfl⟩)).mono ?_
    rintro e w' ⟨N, rfl, _, _, hb⟩
    exact ⟨_, rfl, ⟨_, _, rfl⟩, Kp.of_below hb⟩
theorem k_strconv_Atoi (s1 : Bs) (r : (Int × Int)) (H : m_strconv_Atoi s1 = some r) : Fn Tryz.prog 147 [vstr s1] (resOf [vint r.1, verr r.2]) := by
  refine ⟨by kernel_rfl, pure_of (us := [vint r.1, verr r.2]) Tryz.func147 rfl rfl rfl rfl fun X hN => ?_⟩
  unfold m_strconv_Atoi at H
  refine awp_seq ?_
  refine awp_plain hN rfl ?_
  refine seq_run0 (stp_assign (.dat _) rfl) ?_
  refine seq_run0 (stp_assign (.dat _) rfl) ?_
  refine awp_seq ?_
  refine awp_plain hN rfl ?_
  refine seq_run0 (stp_move (.dat _) rfl) ?_
  obtain ⟨r2, h3, H⟩ := bnd H
  refine seq_run0 (stp_call (k_internal_strconv_Atoi s1 r2 h3) ⟨.inl rfl, trivial⟩) ?_
  refine seq_run0 (stp_move (.dat _) rfl) ?_
  refine seq_run0 (stp_ext rfl rfl) ?_
  refine seq_run0 (stp_ext rfl rfl) ?_
  refine seq_run0 (stp_assign (.dat _) rfl) ?_
  refine seq_run0 (stp_assign (.dat _) rfl) ?_
  refine awp_seq ?_
  refine awp_seq ?_
  refine awp_plain hN rfl ?_
  refine seq_run0 (stp_move (.dat _) rfl) ?_
  refine seq_run0 (stp_errneq (n := r2.2) (show Tryz.prog.underlying 112 = some (.interface (Tryz.prog.methodsAt 112)) from by kernel_rfl) rfl) ?_
  refine awp_cond _ rfl (fun h4 => ?_) (fun h4 => ?_)
  · replace H := ift h4 H
    refine awp_seq ?_
    refine awp_plain hN rfl ?_
    refine seq_run0 (stp_move (.dat _) rfl) ?_
    refine seq_run0 (stp_move (.dat _) rfl) ?_
    refine seq_run0 (stp_move (.dat _) rfl) ?_
    obtain ⟨r5, h6, H⟩ := bnd H
    refine seq_run0 (stp_call (k_strconv_toError [65, 116, 111, 105] s1 0 0 r2.2 r5 h6) ⟨.inl rfl, .inl rfl, .inl rfl, .inl rfl, .inl rfl, trivial⟩) ?_
    refine seq_run0 (stp_assign (.dat _) rfl) ?_
    refine seq_run0 (stp_assign (.dat _) rfl) ?_
    refine awp_ret ?_
    cases H
    exact ⟨trivial, .inl rfl, .inl rfl, trivial⟩
  · replace H := iff_ h4 H
    refine awp_skip ?_
    refine awp_seq ?_
    refine awp_plain hN rfl ?_
    refine seq_run0 (stp_move (.dat _) rfl) ?_
    refine seq_run0 (stp_assign (.dat _) rfl) ?_
    refine seq_run0 (stp_assign (.dat _) rfl) ?_
    refine awp_ret ?_
    cases H
    exact ⟨trivial, .inl rfl, .inl rfl, trivial⟩
theorem k_kit_Number (s1 : Bs) (most2 : Int) (r : (Int × Bool)) (H : m_kit_Number s1 most2 = some r) : Fn Tryz.prog 110 [vstr s1, vint most2] (resOf [vint r.1, vbool r.2]) := by
  refine ⟨by kernel_rfl, pure_of (us := [vint r.1, vbool r.2]) Tryz.func110 rfl rfl rfl rfl fun X hN => ?_⟩
  unfold m_kit_Number at H
  refine awp_seq ?_
  refine awp_plain hN rfl ?_
  refine seq_run0 (stp_assign (.dat _) rfl) ?_
  refine seq_run0 (stp_assign (.dat _) rfl) ?_
  refine awp_seq ?_
  refine awp_plain hN rfl ?_
  refine seq_run0 (stp_move (.dat _) rfl) ?_
  obtain ⟨r3, h4, H⟩ := bnd H
  refine seq_run0 (stp_call (k_strings_TrimPrefix s1 [45] r3 h4) ⟨.inl rfl, .inl rfl, trivial⟩) ?_
  refine seq_run0 (stp_assign (.dat _) rfl) ?_
  refine awp_seq ?_
  refine awp_joinE (ι := Bool) (fun i => [(0, .dat (vstr s1)), (6, .dat (vstr r3)), (28, .dat (vbool i))]) (fun i => []) (fun i => kit_Number_J1 s1 r3 i = some r) (fun i => rfl) ?_ ?_
  · skip
    refine awp_plain hN rfl ?_
    refine seq_run0 (stp_move (.dat _) rfl) ?_
    refine seq_run0 (stp_seql rfl rfl) ?_
    refine seq_run0 (stp_move (.dat _) rfl) ?_
    refine seq_split (j := 2) rfl rfl (fun h5 => ?_) (fun h5 => ?_) rfl
    · have h6 := un3 h5
      replace H := iff_ h6 H
      refine seq_g0 rfl rfl h5 (stp_move (.dat _) rfl) ?_
      refine seq_g0 rfl rfl h5 (stp_len_str tyU9 rfl) ?_
      refine seq_g0 rfl rfl h5 (stp_move (.dat _) rfl) ?_
      refine seq_g0 rfl rfl h5 (stp_gtr rfl rfl) ?_
      refine seq_run0 (stp_pick_f rfl (bFF h6) rfl) ?_
      refine seq_run0 (stp_move (.dat _) rfl) ?_
      refine seq_split (j := 8) rfl rfl (fun h7 => ?_) (fun h7 => ?_) rfl
      · have h8 := un3 h7
        replace H := iff_ h8 H
        refine seq_g0 rfl rfl h7 (stp_move (.dat _) rfl) ?_
        obtain ⟨x9, h10, H⟩ := bnd H
        refine seq_g0 rfl rfl h7 (t_byte tyU9 rfl rfl h10) ?_
        refine seq_g0 rfl rfl h7 (stp_eql rfl rfl) ?_
        refine seq_g0 rfl rfl h7 (stp_move (.dat _) rfl) ?_
        refine seq_split (j := 12) rfl rfl (fun h11 => ?_) (fun h11 => ?_) rfl
        · have h12 := un1 h11
          replace H := ift h12 H
          refine seq_g0 rfl rfl h11 (stp_move (.dat _) rfl) ?_
          refine seq_g0 rfl rfl h11 (stp_sneq rfl rfl) ?_
          refine seq_g0 rfl rfl h7 (stp_pick_t rfl (bTT h12) rfl) ?_
          refine seq_run0 (stp_pick_f rfl (bFF h8) rfl) ?_
          exact ⟨decide (s1 ≠ [48]), H, ⟨rfl, rfl, rfl, trivial⟩, trivial⟩
        · have h13 := un2 h11
          replace H := iff_ h13 H
          refine seq_skip rfl rfl h11 ?_
          refine seq_skip rfl rfl h11 ?_
          refine seq_g0 rfl rfl h7 (stp_pick_f rfl (bFF h13) rfl) ?_
          refine seq_run0 (stp_pick_f rfl (bFF h8) rfl) ?_
          exact ⟨false, H, ⟨rfl, rfl, rfl, trivial⟩, trivial⟩
      · have h14 := un4 h7
        replace H := ift h14 H
        refine seq_skip rfl rfl h7 ?_
        refine seq_skip rfl rfl h7 ?_
        refine seq_skip rfl rfl h7 ?_
        refine seq_skip rfl rfl h7 ?_
        refine seq_skipU rfl rfl ?_
        refine seq_skipU rfl rfl ?_
        refine seq_skip rfl rfl h7 ?_
        refine seq_run0 (stp_pick_t rfl (bTT h14) rfl) ?_
        exact ⟨true, H, ⟨rfl, rfl, rfl, trivial⟩, trivial⟩
    · have h15 := un4 h5
      replace H := ift h15 H
      refine seq_skip rfl rfl h5 ?_
      refine seq_skip rfl rfl h5 ?_
      refine seq_skip rfl rfl h5 ?_
      refine seq_skip rfl rfl h5 ?_
      refine seq_run0 (stp_pick_t rfl (bTT h15) rfl) ?_
      refine seq_run0 (stp_move (.dat _) rfl) ?_
      refine seq_skip rfl rfl rfl ?_
      refine seq_skip rfl rfl rfl ?_
      refine seq_skip rfl rfl rfl ?_
      refine seq_skip rfl rfl rfl ?_
      refine seq_skipU rfl rfl ?_
      refine seq_skipU rfl rfl ?_
      refine seq_skip rfl rfl rfl ?_
      refine seq_run0 (stp_pick_t rfl rfl rfl) ?_
      exact ⟨true, H, ⟨rfl, rfl, rfl, trivial⟩, trivial⟩
  · rintro v16 H
    replace H : kit_Number_J1 s1 r3 v16 = some r := H
    unfold kit_Number_J1 at H
    refine awp_cond _ rfl (fun h17 => ?_) (fun h17 => ?_)
    · replace H := ift h17 H
      refine awp_seq ?_
      refine awp_plain hN rfl ?_
      refine seq_run0 (stp_assign (.dat _) rfl) ?_
      refine seq_run0 (stp_assign (.dat _) rfl) ?_
      refine awp_ret ?_
      cases H
      exact ⟨trivial, .inl rfl, .inl rfl, trivial⟩
    · replace H := iff_ h17 H
      refine awp_skip ?_
      refine awp_seq ?_
      refine awp_seq ?_
      refine awp_plain hN rfl ?_
      refine seq_run0 (stp_assign (.dat _) rfl) ?_
      refine awp_block ?_
      obtain ⟨h20, H⟩ := gif H
      refine awp_forL (fun (i18 : Nat) (s : Unit) => [(0, .dat (vstr s1)), (6, .dat (vstr r3)), (7, .dat (vint (i18 : Int)))]) (fun (i18 : Nat) (s : Unit) => []) () H ⟨rfl, rfl, rfl, trivial⟩ trivial (fun _ _ => rfl) ?_ ?_
      · rintro ⟨⟩ H
        replace H : kit_Number_E2 s1 = some r := H
        unfold kit_Number_E2 at H
        refine awp_seq ?_
        refine awp_seq ?_
        refine awp_plain hN rfl ?_
        refine seq_run0 (stp_move (.dat _) rfl) ?_
        refine seq_run0 (stp_move (.dat _) rfl) ?_
        refine seq_run0 (stp_len_str tyU9 rfl) ?_
        refine seq_run0 (stp_lss rfl rfl) ?_
        refine awp_cond _ rfl (fun h => (lt_t h).elim) (fun h => ?_)
        refine awp_exit ?_
        refine awp_seq ?_
        refine awp_plain hN rfl ?_
        refine seq_run0 (stp_move (.dat _) rfl) ?_
        obtain ⟨r22, h23, H⟩ := bnd H
        refine seq_run0 (stp_call (k_strconv_Atoi s1 r22 h23) ⟨.inl rfl, trivial⟩) ?_
        refine seq_run0 (stp_move (.dat _) rfl) ?_
        refine seq_run0 (stp_ext rfl rfl) ?_
        refine seq_run0 (stp_ext rfl rfl) ?_
        refine seq_run0 (stp_assign (.dat _) rfl) ?_
        refine seq_run0 (stp_assign (.dat _) rfl) ?_
        refine awp_seq ?_
        refine awp_draw mixed hN rfl rfl ?_
        refine seq_run0 (stp_move (.dat _) rfl) ?_
        refine seq_run0 (stp_move (.dat _) rfl) ?_
        refine seq_run0 (stp_erreql (n := r22.2) (show Tryz.prog.underlying 112 = some (.interface (Tryz.prog.methodsAt 112)) from by kernel_rfl) rfl) ?_
        refine seq_run0 (stp_assign (.dat _) rfl) ?_
        refine seq_run0 (stp_assign (.dat _) rfl) ?_
        refine ⟨rfl, ?_⟩
        refine awp_ret ?_
        cases H
        exact ⟨trivial, .inl rfl, .inl rfl, trivial⟩
      · rintro i18 x21 ⟨⟩ q19 h24 h25 H hq19
        replace H : kit_Number_L2 i18 x21 = some q19 := H
        unfold kit_Number_L2 at H
        refine awp_seq ?_
        refine awp_seq ?_
        refine awp_plain hN rfl ?_
        refine seq_run0 (stp_move (.dat _) rfl) ?_
        refine seq_run0 (stp_move (.dat _) rfl) ?_
        refine seq_run0 (stp_len_str tyU9 rfl) ?_
        refine seq_run0 (stp_lss rfl rfl) ?_
        refine awp_cond _ rfl (fun h => ?_) (fun h => (lt_f h24 h).elim)
        refine awp_skip ?_
        refine awp_seq ?_
        refine awp_block ?_
        refine awp_joinE (ι := Bool) (fun i => [(0, .dat (vstr s1)), (6, .dat (vstr r3)), (7, .dat (vint (i18 : Int))), (44, .dat (vbool i))]) (fun i => []) (fun i => kit_Number_J3 i = some q19) (fun i => rfl) ?_ ?_
        · skip
          refine awp_plain hN rfl ?_
          refine seq_run0 (stp_move (.dat _) rfl) ?_
          refine seq_run0 (stp_move (.dat _) rfl) ?_
          refine seq_run0 (t_byte tyU9 rfl rfl h25) ?_
          refine seq_run0 (stp_lss rfl rfl) ?_
          refine seq_run0 (stp_move (.dat _) rfl) ?_
          refine seq_split (j := 4) rfl rfl (fun h26 => ?_) (fun h26 => ?_) rfl
          · have h27 := un3 h26
            replace H := iff_ h27 H
            refine seq_g0 rfl rfl h26 (stp_move (.dat _) rfl) ?_
            refine seq_g0 rfl rfl h26 (stp_move (.dat _) rfl) ?_
            refine seq_g0 rfl rfl h26 (t_byte tyU9 rfl rfl h25) ?_
            refine seq_g0 rfl rfl h26 (stp_gtr rfl rfl) ?_
            refine seq_run0 (stp_pick_f rfl (bFF h27) rfl) ?_
            exact ⟨decide (57 < (x21.toNat : Int)), H, ⟨rfl, rfl, rfl, rfl, trivial⟩, trivial⟩
          · have h28 := un4 h26
            replace H := ift h28 H
            refine seq_skip rfl rfl h26 ?_
            refine seq_skip rfl rfl h26 ?_
            refine seq_skip rfl rfl h26 ?_
            refine seq_skip rfl rfl h26 ?_
            refine seq_run0 (stp_pick_t rfl (bTT h28) rfl) ?_
            exact ⟨true, H, ⟨rfl, rfl, rfl, rfl, trivial⟩, trivial⟩
        · rintro v29 H
          replace H : kit_Number_J3 v29 = some q19 := H
          unfold kit_Number_J3 at H
          refine awp_cond _ rfl (fun h30 => ?_) (fun h30 => ?_)
          · replace H := ift h30 H
            refine awp_seq ?_
            refine awp_plain hN rfl ?_
            refine seq_run0 (stp_assign (.dat _) rfl) ?_
            refine seq_run0 (stp_assign (.dat _) rfl) ?_
            refine awp_ret ?_
            replace H := retl H hq19
            cases H
            exact ⟨trivial, .inl rfl, .inl rfl, trivial⟩
          · replace H := iff_ h30 H
            refine awp_skip ?_
            refine awp_plain hN rfl ?_
            refine seq_run0 (stp_move (.dat _) rfl) ?_
            refine seq_run0 (stp_add rfl rfl (by omega)) ?_
            refine seq_run0 (stp_assign (.dat _) rfl) ?_
            exact ⟨_, backl H, ⟨rfl, rfl, rfl, trivial⟩, trivial⟩
theorem k_kit_Small (s1 : Bs) (r : (Int × Bool)) (H : m_kit_Small s1 = some r) : Fn Tryz.prog 140 [vstr s1] (resOf [vint r.1, vbool r.2]) := by
  refine ⟨by kernel_rfl, pure_of (us := [vint r.1, vbool r.2]) Tryz.func140 rfl rfl rfl rfl fun X hN => ?_⟩
  unfold m_kit_Small at H
  refine awp_seq ?_
  refine awp_plain hN rfl ?_
  refine seq_run0 (stp_assign (.dat _) rfl) ?_
  refine seq_run0 (stp_assign (.dat _) rfl) ?_
  refine awp_seq ?_
  refine awp_plain hN rfl ?_
  refine seq_run0 (stp_move (.dat _) rfl) ?_
  obtain ⟨r2, h3, H⟩ := bnd H
  refine seq_run0 (stp_call (k_kit_Number s1 9 r2 h3) ⟨.inl rfl, .inl rfl, trivial⟩) ?_
  refine seq_run0 (stp_ext rfl rfl) ?_
  refine seq_run0 (stp_ext rfl rfl) ?_
  refine seq_run0 (stp_assign (.dat _) rfl) ?_
  refine seq_run0 (stp_assign (.dat _) rfl) ?_
  refine awp_ret ?_
  cases H
  exact ⟨trivial, .inl rfl, .inl rfl, trivial⟩
theorem k_kit_Outside (n1 : Int) (low2 : Int) (high3 : Int) (r : (Bool)) (H : m_kit_Outside n1 low2 high3 = some r) : Fn Tryz.prog 78 [vint n1, vint low2, vint high3] (resOf [vbool r]) := by
  refine ⟨by kernel_rfl, pure_of (us := [vbool r]) Tryz.func78 rfl rfl rfl rfl fun X hN => ?_⟩
  unfold m_kit_Outside at H
  refine awp_seq ?_
  refine awp_plain hN rfl ?_
  refine seq_run0 (stp_assign (.dat _) rfl) ?_
  refine awp_seq ?_
  refine awp_plain hN rfl ?_
  refine seq_run0 (stp_move (.dat _) rfl) ?_
  refine seq_run0 (stp_move (.dat _) rfl) ?_
  refine seq_run0 (stp_lss rfl rfl) ?_
  refine seq_run0 (stp_move (.dat _) rfl) ?_
  refine seq_aF rfl rfl (fun hc => stp_move (.dat _) rfl) ?_
  refine seq_aF rfl rfl (fun hc => stp_move (.dat _) rfl) ?_
  refine seq_aF rfl rfl (fun hc => stp_gtr (cnd (c := (!(decide (n1 < low2)))) hc) (cnd (c := (!(decide (n1 < low2)))) hc)) ?_
  refine seq_run0 (stp_pick_or rfl rfl (fun hb => (cnd (c := (!(decide (n1 < low2)))) (notI hb)))) ?_
  refine seq_run0 (stp_assign (.dat _) rfl) ?_
  refine awp_ret ?_
  cases H
  exact ⟨trivial, .inl rfl, trivial⟩
theorem k_message_isLetter (c1 : Int) (r : (Bool)) (H : m_message_isLetter c1 = some r) : Fn Tryz.prog 191 [vval (.int .u8 c1)] (resOf [vbool r]) := by
  refine ⟨by kernel_rfl, pure_of (us := [vbool r]) Tryz.func191 rfl rfl rfl rfl fun X hN => ?_⟩
  unfold m_message_isLetter at H
  refine awp_seq ?_
  refine awp_plain hN rfl ?_
  refine seq_run0 (stp_assign (.dat _) rfl) ?_
  refine awp_seq ?_
  refine awp_plain hN rfl ?_
  refine seq_run0 (stp_move (.dat _) rfl) ?_
  refine seq_run0 (stp_geq rfl rfl) ?_
  refine seq_run0 (stp_move (.dat _) rfl) ?_
  refine seq_aT rfl rfl (fun hc => stp_move (.dat _) rfl) ?_
  refine seq_aT rfl rfl (fun hc => stp_leq (cnd (c := (decide (97 ≤ c1))) hc) rfl) ?_
  refine seq_run0 (stp_pick_and rfl (fun hb => (cnd (c := (decide (97 ≤ c1))) hb)) rfl) ?_
  refine seq_run0 (stp_move (.dat _) rfl) ?_
  refine seq_aF rfl rfl (fun hc => stp_move (.dat _) rfl) ?_
  refine seq_aF rfl rfl (fun hc => stp_geq (cnd (c := (!((decide (97 ≤ c1)) && (decide (c1 ≤ 122))))) hc) rfl) ?_
  refine seq_aF rfl rfl (fun hc => stp_move (.dat _) (cnd (c := (!((decide (97 ≤ c1)) && (decide (c1 ≤ 122))))) hc)) ?_
  refine seq_bT rfl rfl (fun hc => stp_move (.dat _) rfl) ?_
  refine seq_bT rfl rfl (fun hc => stp_leq (cnd (c := ((!((decide (97 ≤ c1)) && (decide (c1 ≤ 122)))) && (decide (65 ≤ c1)))) hc) rfl) ?_
  refine seq_aF rfl rfl (fun hc => stp_pick_and (cnd (c := (!((decide (97 ≤ c1)) && (decide (c1 ≤ 122))))) hc) (fun hb => (cnd (c := ((!((decide (97 ≤ c1)) && (decide (c1 ≤ 122)))) && (decide (65 ≤ c1)))) (andI hc hb))) rfl) ?_
  refine seq_run0 (stp_pick_or rfl rfl (fun hb => (cnd (c := (!((decide (97 ≤ c1)) && (decide (c1 ≤ 122))))) (notI hb)))) ?_
  refine seq_run0 (stp_assign (.dat _) rfl) ?_
  refine awp_ret ?_
  cases H
  exact ⟨trivial, .inl rfl, trivial⟩
theorem k_message_isDigit (c1 : Int) (r : (Bool)) (H : m_message_isDigit c1 = some r) : Fn Tryz.prog 192 [vval (.int .u8 c1)] (resOf [vbool r]) := by
  refine ⟨by kernel_rfl, pure_of (us := [vbool r]) Tryz.func192 rfl rfl rfl rfl fun X hN => ?_⟩
  unfold m_message_isDigit at H
  refine awp_seq ?_
  refine awp_plain hN rfl ?_
  refine seq_run0 (stp_assign (.dat _) rfl) ?_
  refine awp_seq ?_
  refine awp_plain hN rfl ?_
  refine seq_run0 (stp_move (.dat _) rfl) ?_
  refine seq_run0 (stp_geq rfl rfl) ?_
  refine seq_run0 (stp_move (.dat _) rfl) ?_
  refine seq_aT rfl rfl (fun hc => stp_move (.dat _) rfl) ?_
  refine seq_aT rfl rfl (fun hc => stp_leq (cnd (c := (decide (48 ≤ c1))) hc) rfl) ?_
  refine seq_run0 (stp_pick_and rfl (fun hb => (cnd (c := (decide (48 ≤ c1))) hb)) rfl) ?_
  refine seq_run0 (stp_assign (.dat _) rfl) ?_
  refine awp_ret ?_
  cases H
  exact ⟨trivial, .inl rfl, trivial⟩
theorem k_message_isLabel (s1 : Bs) (r : (Bool)) (H : m_message_isLabel s1 = some r) : Fn Tryz.prog 139 [vstr s1] (resOf [vbool r]) := by
  refine ⟨by kernel_rfl, pure_of (us := [vbool r]) Tryz.func139 rfl rfl rfl rfl fun X hN => ?_⟩
  unfold m_message_isLabel at H
  refine awp_seq ?_
  refine awp_plain hN rfl ?_
  refine seq_run0 (stp_assign (.dat _) rfl) ?_
  refine awp_seq ?_
  refine awp_seq ?_
  refine awp_plain hN rfl ?_
  refine seq_run0 (stp_move (.dat _) rfl) ?_
  refine seq_run0 (stp_len_str tyU9 rfl) ?_
  refine seq_run0 (stp_move (.dat _) rfl) ?_
  refine awp_block ?_
  obtain ⟨h4, H⟩ := gif H
  refine awp_forL (fun (k2 : Nat) (s : Unit) => [(0, .dat (vstr s1)), (5, .dat (vint (s1.length : Int))), (6, .dat (vint (k2 : Int)))]) (fun (k2 : Nat) (s : Unit) => []) () H ⟨rfl, rfl, rfl, trivial⟩ trivial (fun _ _ => rfl) ?_ ?_
  · rintro ⟨⟩ H
    replace H : message_isLabel_E1 s1 = some r := H
    unfold message_isLabel_E1 at H
    refine awp_seq ?_
    refine awp_plain hN rfl ?_
    refine seq_run0 (stp_lss rfl rfl) ?_
    refine awp_seq ?_
    refine awp_cond _ rfl (fun h => (lt_t h).elim) (fun h => ?_)
    refine awp_exit ?_
    refine awp_joinE (ι := Bool) (fun i => [(2, .dat (vbool i))]) (fun i => []) (fun i => message_isLabel_J2 i = some r) (fun i => rfl) ?_ ?_
    · skip
      refine awp_plain hN rfl ?_
      refine seq_run0 (stp_move (.dat _) rfl) ?_
      refine seq_run0 (stp_sneq rfl rfl) ?_
      refine seq_run0 (stp_move (.dat _) rfl) ?_
      refine seq_split (j := 2) rfl rfl (fun h6 => ?_) (fun h6 => ?_) rfl
      · have h7 := un1 h6
        replace H := ift h7 H
        refine seq_g0 rfl rfl h6 (stp_move (.dat _) rfl) ?_
        refine seq_g0 rfl rfl h6 (stp_len_str tyU9 rfl) ?_
        refine seq_g0 rfl rfl h6 (stp_leq rfl rfl) ?_
        refine seq_run0 (stp_pick_t rfl (bTT h7) rfl) ?_
        refine seq_run0 (stp_move (.dat _) rfl) ?_
        refine seq_split (j := 7) rfl rfl (fun h8 => ?_) (fun h8 => ?_) rfl
        · have h9 := un1 h8
          replace H := ift h9 H
          refine seq_g0 rfl rfl h8 (stp_move (.dat _) rfl) ?_
          obtain ⟨x10, h11, H⟩ := bnd H
          refine seq_g0 rfl rfl h8 (t_byte tyU9 rfl rfl h11) ?_
          refine seq_g0 rfl rfl h8 (stp_neq rfl rfl) ?_
          refine seq_run0 (stp_pick_t rfl (bTT h9) rfl) ?_
          refine seq_run0 (stp_move (.dat _) rfl) ?_
          refine seq_split (j := 12) rfl rfl (fun h12 => ?_) (fun h12 => ?_) rfl
          · have h13 := un1 h12
            replace H := ift h13 H
            refine seq_g0 rfl rfl h12 (stp_move (.dat _) rfl) ?_
            refine seq_g0 rfl rfl h12 (stp_move (.dat _) rfl) ?_
            refine seq_g0 rfl rfl h12 (stp_len_str tyU9 rfl) ?_
            refine seq_g0 rfl rfl h12 (stp_wrap _ rfl rfl (.inr (.inl ⟨rfl, rfl⟩))) ?_
            obtain ⟨x14, h15, H⟩ := bnd H
            refine seq_g0 rfl rfl h12 (t_byteI tyU9 rfl rfl h15) ?_
            refine seq_g0 rfl rfl h12 (stp_neq rfl rfl) ?_
            refine seq_run0 (stp_pick_t rfl (bTT h13) rfl) ?_
            refine seq_run0 (stp_assign (.dat _) rfl) ?_
            exact ⟨decide ((x14.toNat : Int) ≠ 45), H, ⟨rfl, trivial⟩, trivial⟩
          · have h16 := un2 h12
            replace H := iff_ h16 H
            refine seq_skip rfl rfl h12 ?_
            refine seq_skip rfl rfl h12 ?_
            refine seq_skip rfl rfl h12 ?_
            refine seq_skip rfl rfl h12 ?_
            refine seq_skip rfl rfl h12 ?_
            refine seq_skip rfl rfl h12 ?_
            refine seq_run0 (stp_pick_f rfl (bFF h16) rfl) ?_
            refine seq_run0 (stp_assign (.dat _) rfl) ?_
            exact ⟨false, H, ⟨rfl, trivial⟩, trivial⟩
        · have h17 := un2 h8
          replace H := iff_ h17 H
          refine seq_skip rfl rfl h8 ?_
          refine seq_skip rfl rfl h8 ?_
          refine seq_skip rfl rfl h8 ?_
          refine seq_run0 (stp_pick_f rfl (bFF h17) rfl) ?_
          refine seq_run0 (stp_move (.dat _) rfl) ?_
          refine seq_skip rfl rfl rfl ?_
          refine seq_skip rfl rfl rfl ?_
          refine seq_skip rfl rfl rfl ?_
          refine seq_skip rfl rfl rfl ?_
          refine seq_skip rfl rfl rfl ?_
          refine seq_skip rfl rfl rfl ?_
          refine seq_run0 (stp_pick_f rfl rfl rfl) ?_
          refine seq_run0 (stp_assign (.dat _) rfl) ?_
          exact ⟨false, H, ⟨rfl, trivial⟩, trivial⟩
      · have h18 := un2 h6
        replace H := iff_ h18 H
        refine seq_skip rfl rfl h6 ?_
        refine seq_skip rfl rfl h6 ?_
        refine seq_skip rfl rfl h6 ?_
        refine seq_run0 (stp_pick_f rfl (bFF h18) rfl) ?_
        refine seq_run0 (stp_move (.dat _) rfl) ?_
        refine seq_skip rfl rfl rfl ?_
        refine seq_skip rfl rfl rfl ?_
        refine seq_skip rfl rfl rfl ?_
        refine seq_run0 (stp_pick_f rfl rfl rfl) ?_
        refine seq_run0 (stp_move (.dat _) rfl) ?_
        refine seq_skip rfl rfl rfl ?_
        refine seq_skip rfl rfl rfl ?_
        refine seq_skip rfl rfl rfl ?_
        refine seq_skip rfl rfl rfl ?_
        refine seq_skip rfl rfl rfl ?_
        refine seq_skip rfl rfl rfl ?_
        refine seq_run0 (stp_pick_f rfl rfl rfl) ?_
        refine seq_run0 (stp_assign (.dat _) rfl) ?_
        exact ⟨false, H, ⟨rfl, trivial⟩, trivial⟩
    · rintro v19 H
      replace H : message_isLabel_J2 v19 = some r := H
      unfold message_isLabel_J2 at H
      refine awp_ret ?_
      cases H
      exact ⟨trivial, .inl rfl, trivial⟩
  · rintro k2 x5 ⟨⟩ q3 h20 h21 H hq3
    replace H : message_isLabel_L1 k2 x5 = some q3 := H
    unfold message_isLabel_L1 at H
    refine awp_seq ?_
    refine awp_plain hN rfl ?_
    refine seq_run0 (stp_lss rfl rfl) ?_
    refine awp_seq ?_
    refine awp_cond _ rfl (fun h => ?_) (fun h => (lt_f h20 h).elim)
    refine awp_skip ?_
    refine awp_seq ?_
    refine awp_block ?_
    refine awp_seq ?_
    refine awp_plain hN rfl ?_
    refine seq_run0 (stp_move (.dat _) rfl) ?_
    refine seq_run0 (stp_assign (.dat _) rfl) ?_
    refine awp_joinE (ι := Bool) (fun i => [(0, .dat (vstr s1)), (5, .dat (vint (s1.length : Int))), (6, .dat (vint (k2 : Int))), (26, .dat (vbool i))]) (fun i => []) (fun i => message_isLabel_J3 i = some q3) (fun i => rfl) ?_ ?_
    · skip
      refine awp_plain hN rfl ?_
      refine seq_run0 (stp_move (.dat _) rfl) ?_
      refine seq_run0 (stp_move (.dat _) rfl) ?_
      refine seq_run0 (t_byte tyU9 rfl rfl h21) ?_
      obtain ⟨r22, h23, H⟩ := bnd H
      refine seq_run0 (stp_call (k_message_isLetter (x5.toNat : Int) r22 h23) ⟨.inl rfl, trivial⟩) ?_
      refine seq_run0 (stp_not rfl) ?_
      refine seq_run0 (stp_move (.dat _) rfl) ?_
      refine seq_split (j := 5) rfl rfl (fun h24 => ?_) (fun h24 => ?_) rfl
      · have h25 := un1 h24
        replace H := ift h25 H
        refine seq_g0 rfl rfl h24 (stp_move (.dat _) rfl) ?_
        refine seq_g0 rfl rfl h24 (stp_move (.dat _) rfl) ?_
        refine seq_g0 rfl rfl h24 (t_byte tyU9 rfl rfl h21) ?_
        obtain ⟨r26, h27, H⟩ := bnd H
        refine seq_g0 rfl rfl h24 (stp_call (k_message_isDigit (x5.toNat : Int) r26 h27) ⟨.inl rfl, trivial⟩) ?_
        refine seq_g0 rfl rfl h24 (stp_not rfl) ?_
        refine seq_run0 (stp_pick_t rfl (bTT h25) rfl) ?_
        refine seq_run0 (stp_move (.dat _) rfl) ?_
        refine seq_split (j := 12) rfl rfl (fun h28 => ?_) (fun h28 => ?_) rfl
        · have h29 := un1 h28
          replace H := ift h29 H
          refine seq_g0 rfl rfl h28 (stp_move (.dat _) rfl) ?_
          refine seq_g0 rfl rfl h28 (stp_move (.dat _) rfl) ?_
          refine seq_g0 rfl rfl h28 (t_byte tyU9 rfl rfl h21) ?_
          refine seq_g0 rfl rfl h28 (stp_neq rfl rfl) ?_
          refine seq_run0 (stp_pick_t rfl (bTT h29) rfl) ?_
          exact ⟨decide ((x5.toNat : Int) ≠ 45), H, ⟨rfl, rfl, rfl, rfl, trivial⟩, trivial⟩
        · have h30 := un2 h28
          replace H := iff_ h30 H
          refine seq_skip rfl rfl h28 ?_
          refine seq_skip rfl rfl h28 ?_
          refine seq_skip rfl rfl h28 ?_
          refine seq_skip rfl rfl h28 ?_
          refine seq_run0 (stp_pick_f rfl (bFF h30) rfl) ?_
          exact ⟨false, H, ⟨rfl, rfl, rfl, rfl, trivial⟩, trivial⟩
      · have h31 := un2 h24
        replace H := iff_ h31 H
        refine seq_skip rfl rfl h24 ?_
        refine seq_skip rfl rfl h24 ?_
        refine seq_skip rfl rfl h24 ?_
        refine seq_skip rfl rfl h24 ?_
        refine seq_skip rfl rfl h24 ?_
        refine seq_run0 (stp_pick_f rfl (bFF h31) rfl) ?_
        refine seq_run0 (stp_move (.dat _) rfl) ?_
        refine seq_skip rfl rfl rfl ?_
        refine seq_skip rfl rfl rfl ?_
        refine seq_skip rfl rfl rfl ?_
        refine seq_skip rfl rfl rfl ?_
        refine seq_run0 (stp_pick_f rfl rfl rfl) ?_
        exact ⟨false, H, ⟨rfl, rfl, rfl, rfl, trivial⟩, trivial⟩
    · rintro v32 H
      replace H : message_isLabel_J3 v32 = some q3 := H
      unfold message_isLabel_J3 at H
      refine awp_cond _ rfl (fun h33 => ?_) (fun h33 => ?_)
      · replace H := ift h33 H
        refine awp_seq ?_
        refine awp_plain hN rfl ?_
        refine seq_run0 (stp_assign (.dat _) rfl) ?_
        refine awp_ret ?_
        replace H := retl H hq3
        cases H
        exact ⟨trivial, .inl rfl, trivial⟩
      · replace H := iff_ h33 H
        refine awp_skip ?_
        refine awp_plain hN rfl ?_
        refine seq_run0 (stp_add rfl rfl (by omega)) ?_
        refine seq_run0 (stp_move (.dat _) rfl) ?_
        exact ⟨_, backl H, ⟨rfl, rfl, rfl, trivial⟩, trivial⟩
theorem k_message_isHost (s1 : Bs) (r : (Bool)) (H : m_message_isHost s1 = some r) : Fn Tryz.prog 72 [vstr s1] (resOf [vbool r]) := by
  refine ⟨by kernel_rfl, pure_of (us := [vbool r]) Tryz.func72 rfl rfl rfl rfl fun X hN => ?_⟩
  unfold m_message_isHost at H
  refine awp_seq ?_
  refine awp_plain hN rfl ?_
  refine seq_run0 (stp_assign (.dat _) rfl) ?_
  refine awp_seq ?_
  refine awp_plain hN rfl ?_
  refine seq_run0 (stp_move (.dat _) rfl) ?_
  obtain ⟨r2, h3, H⟩ := bnd H
  refine seq_run0 (stp_call (k_strings_Cut s1 [58] r2 h3) ⟨.inl rfl, .inl rfl, trivial⟩) ?_
  refine seq_run0 (stp_move (.dat _) rfl) ?_
  refine seq_run0 (stp_ext rfl rfl) ?_
  refine seq_run0 (stp_ext rfl rfl) ?_
  refine seq_run0 (stp_ext rfl rfl) ?_
  refine seq_run0 (stp_assign (.dat _) rfl) ?_
  refine seq_run0 (stp_assign (.dat _) rfl) ?_
  refine seq_run0 (stp_assign (.dat _) rfl) ?_
  refine awp_seq ?_
  refine awp_seq ?_
  refine awp_plain hN rfl ?_
  refine seq_run0 (stp_move (.dat _) rfl) ?_
  obtain ⟨r4, h5, H⟩ := bnd H
  refine seq_run0 (stp_call (k_strings_Split r2.1 [46] r4 h5) ⟨.inl rfl, .inl rfl, trivial⟩) ?_
  refine seq_run0 (t_len tyU41 rfl) ?_
  refine seq_run0 (stp_move (.dat _) rfl) ?_
  refine awp_block ?_
  obtain ⟨h8, H⟩ := gif H
  refine awp_forL (fun (k6 : Nat) (s : Unit) => [(0, .dat (vstr s1)), (4, .dat (vstr r2.2.1)), (5, .dat (vbool r2.2.2)), (17, .dat (vlst (List.map C_string r4))), (18, .dat (vint (r4.length : Int))), (19, .dat (vint (k6 : Int)))]) (fun (k6 : Nat) (s : Unit) => []) () H ⟨rfl, rfl, rfl, rfl, rfl, rfl, trivial⟩ trivial (fun _ _ => rfl) ?_ ?_
  · rintro ⟨⟩ H
    replace H : message_isHost_E1 s1 r2 = some r := H
    unfold message_isHost_E1 at H
    refine awp_seq ?_
    refine awp_plain hN rfl ?_
    refine seq_run0 (stp_lss rfl rfl) ?_
    refine awp_seq ?_
    refine awp_cond _ rfl (fun h => (lt_t h).elim) (fun h => ?_)
    refine awp_exit ?_
    refine awp_seq ?_
    refine awp_plain hN rfl ?_
    refine seq_run0 (stp_move (.dat _) rfl) ?_
    obtain ⟨r10, h11, H⟩ := bnd H
    refine seq_run0 (stp_call (k_kit_Small r2.2.1 r10 h11) ⟨.inl rfl, trivial⟩) ?_
    refine seq_run0 (stp_move (.dat _) rfl) ?_
    refine seq_run0 (stp_ext rfl rfl) ?_
    refine seq_run0 (stp_ext rfl rfl) ?_
    refine seq_run0 (stp_assign (.dat _) rfl) ?_
    refine seq_run0 (stp_assign (.dat _) rfl) ?_
    refine awp_joinE (ι := Bool) (fun i => [(2, .dat (vbool i))]) (fun i => []) (fun i => message_isHost_J2 i = some r) (fun i => rfl) ?_ ?_
    · skip
      refine awp_plain hN rfl ?_
      refine seq_run0 (stp_move (.dat _) rfl) ?_
      refine seq_run0 (stp_len_str tyU9 rfl) ?_
      refine seq_run0 (stp_leq rfl rfl) ?_
      refine seq_run0 (stp_move (.dat _) rfl) ?_
      refine seq_split (j := 3) rfl rfl (fun h12 => ?_) (fun h12 => ?_) rfl
      · have h13 := un1 h12
        replace H := ift h13 H
        refine seq_g0 rfl rfl h12 (stp_move (.dat _) rfl) ?_
        refine seq_g0 rfl rfl h12 (stp_not rfl) ?_
        refine seq_g0 rfl rfl h12 (stp_move (.dat _) rfl) ?_
        refine seq_split (j := 6) rfl rfl (fun h14 => ?_) (fun h14 => ?_) rfl
        · have h15 := un3 h14
          replace H := iff_ h15 H
          refine seq_g0 rfl rfl h14 (stp_move (.dat _) rfl) ?_
          refine seq_g0 rfl rfl h14 (stp_move (.dat _) rfl) ?_
          refine seq_split (j := 8) rfl rfl (fun h16 => ?_) (fun h16 => ?_) rfl
          · have h17 := un1 h16
            replace H := ift h17 H
            refine seq_g0 rfl rfl h16 (stp_move (.dat _) rfl) ?_
            obtain ⟨r18, h19, H⟩ := bnd H
            refine seq_g0 rfl rfl h16 (stp_call (k_kit_Outside r10.1 1 65535 r18 h19) ⟨.inl rfl, .inl rfl, .inl rfl, trivial⟩) ?_
            refine seq_g0 rfl rfl h16 (stp_not rfl) ?_
            refine seq_g0 rfl rfl h14 (stp_pick_t rfl (bTT h17) rfl) ?_
            refine seq_g0 rfl rfl h12 (stp_pick_f rfl (bFF h15) rfl) ?_
            refine seq_run0 (stp_pick_t rfl (bTT h13) rfl) ?_
            refine seq_run0 (stp_assign (.dat _) rfl) ?_
            exact ⟨!r18, H, ⟨rfl, trivial⟩, trivial⟩
          · have h20 := un2 h16
            replace H := iff_ h20 H
            refine seq_skip rfl rfl h16 ?_
            refine seq_skip rfl rfl h16 ?_
            refine seq_skip rfl rfl h16 ?_
            refine seq_g0 rfl rfl h14 (stp_pick_f rfl (bFF h20) rfl) ?_
            refine seq_g0 rfl rfl h12 (stp_pick_f rfl (bFF h15) rfl) ?_
            refine seq_run0 (stp_pick_t rfl (bTT h13) rfl) ?_
            refine seq_run0 (stp_assign (.dat _) rfl) ?_
            exact ⟨false, H, ⟨rfl, trivial⟩, trivial⟩
        · have h21 := un4 h14
          replace H := ift h21 H
          refine seq_skip rfl rfl h14 ?_
          refine seq_skip rfl rfl h14 ?_
          refine seq_skipU rfl rfl ?_
          refine seq_skipU rfl rfl ?_
          refine seq_skipU rfl rfl ?_
          refine seq_skip rfl rfl h14 ?_
          refine seq_g0 rfl rfl h12 (stp_pick_t rfl (bTT h21) rfl) ?_
          refine seq_run0 (stp_pick_t rfl (bTT h13) rfl) ?_
          refine seq_run0 (stp_assign (.dat _) rfl) ?_
          exact ⟨true, H, ⟨rfl, trivial⟩, trivial⟩
      · have h22 := un2 h12
        replace H := iff_ h22 H
        refine seq_skip rfl rfl h12 ?_
        refine seq_skip rfl rfl h12 ?_
        refine seq_skip rfl rfl h12 ?_
        refine seq_skipU rfl rfl ?_
        refine seq_skipU rfl rfl ?_
        refine seq_skipU rfl rfl ?_
        refine seq_skipU rfl rfl ?_
        refine seq_skipU rfl rfl ?_
        refine seq_skipU rfl rfl ?_
        refine seq_skip rfl rfl h12 ?_
        refine seq_run0 (stp_pick_f rfl (bFF h22) rfl) ?_
        refine seq_run0 (stp_assign (.dat _) rfl) ?_
        exact ⟨false, H, ⟨rfl, trivial⟩, trivial⟩
    · rintro v23 H
      replace H : message_isHost_J2 v23 = some r := H
      unfold message_isHost_J2 at H
      refine awp_ret ?_
      cases H
      exact ⟨trivial, .inl rfl, trivial⟩
  · rintro k6 x9 ⟨⟩ q7 h24 h25 H hq7
    replace H : message_isHost_L1 k6 x9 = some q7 := H
    unfold message_isHost_L1 at H
    refine awp_seq ?_
    refine awp_plain hN rfl ?_
    refine seq_run0 (stp_lss rfl rfl) ?_
    refine awp_seq ?_
    refine awp_cond _ rfl (fun h => ?_) (fun h => (lt_f h24 h).elim)
    refine awp_skip ?_
    refine awp_seq ?_
    refine awp_block ?_
    refine awp_seq ?_
    refine awp_plain hN rfl ?_
    refine seq_run0 (t_idx tyE41 (fun _ => rfl) rfl rfl h25) ?_
    refine seq_run0 (stp_loadE1 tyS9 rfl (map_at h25) rfl) ?_
    refine seq_run0 (stp_assign (.dat _) rfl) ?_
    refine awp_seq ?_
    refine awp_plain hN rfl ?_
    refine seq_run0 (stp_move (.dat _) rfl) ?_
    obtain ⟨r26, h27, H⟩ := bnd H
    refine seq_run0 (stp_call (k_message_isLabel x9 r26 h27) ⟨.inl rfl, trivial⟩) ?_
    refine seq_run0 (stp_not rfl) ?_
    refine awp_cond _ rfl (fun h28 => ?_) (fun h28 => ?_)
    · replace H := ift h28 H
      refine awp_seq ?_
      refine awp_plain hN rfl ?_
      refine seq_run0 (stp_assign (.dat _) rfl) ?_
      refine awp_ret ?_
      replace H := retl H hq7
      cases H
      exact ⟨trivial, .inl rfl, trivial⟩
    · replace H := iff_ h28 H
      refine awp_skip ?_
      refine awp_plain hN rfl ?_
      refine seq_run0 (stp_add rfl rfl (by omega)) ?_
      refine seq_run0 (stp_move (.dat _) rfl) ?_
      exact ⟨_, backl H, ⟨rfl, rfl, rfl, rfl, rfl, rfl, trivial⟩, trivial⟩
theorem k_strings_ToLower (s : Bs) (r : Bs) (H : m_strings_ToLower s = some r) : Fn Tryz.prog 83 [vstr s] (resOf [vstr r]) := by
  unfold m_strings_ToLower at H
  obtain ⟨⟨h1, h2⟩, h3⟩ := gif H
  cases h3
  refine fn_of_callsG (by kernel_rfl) fun M w vs hM h => ?_
  have hv := Ts_vals (us := [.string ⟨s.toArray⟩]) h
  subst hv
  refine (Tryz.strings_ToLower_ascii ⟨s.toArray⟩ w (by simp [ByteArray.size]; omega) (fun j b hb => ascB_at h2 j b (by simpa using hb))).mono ?_
  rintro e w' ⟨rfl, hb⟩
  exact ⟨_, rfl, rfl, Kp.of_below hb⟩

theorem k_message_NormalHost (s1 : Bs) (r : (Bs × Int)) (H : m_message_NormalHost s1 = some r) : Fn Tryz.prog 24 [vstr s1] (resOf [vstr r.1, vint r.2]) := by
  refine ⟨by kernel_rfl, pure_of (us := [vstr r.1, vint r.2]) Tryz.func24 rfl rfl rfl rfl fun X hN => ?_⟩
  unfold m_message_NormalHost at H
  refine awp_seq ?_
  refine awp_plain hN rfl ?_
  refine seq_run0 (stp_assign (.dat _) rfl) ?_
  refine seq_run0 (stp_assign (.dat _) rfl) ?_
  refine awp_seq ?_
  refine awp_seq ?_
  refine awp_plain hN rfl ?_
  refine seq_run0 (stp_move (.dat _) rfl) ?_
  obtain ⟨r2, h3, H⟩ := bnd H
  refine seq_run0 (stp_call (k_message_isHost s1 r2 h3) ⟨.inl rfl, trivial⟩) ?_
  refine seq_run0 (stp_not rfl) ?_
  refine awp_cond _ rfl (fun h4 => ?_) (fun h4 => ?_)
  · replace H := ift h4 H
    refine awp_seq ?_
    refine awp_plain hN rfl ?_
    refine seq_run0 (stp_assign (.dat _) rfl) ?_
    refine seq_run0 (stp_assign (.dat _) rfl) ?_
    refine awp_ret ?_
    cases H
    exact ⟨trivial, .inl rfl, .inl rfl, trivial⟩
  · replace H := iff_ h4 H
    refine awp_skip ?_
    refine awp_seq ?_
    refine awp_plain hN rfl ?_
    refine seq_run0 (stp_move (.dat _) rfl) ?_
    obtain ⟨r5, h6, H⟩ := bnd H
    refine seq_run0 (stp_call (k_strings_ToLower s1 r5 h6) ⟨.inl rfl, trivial⟩) ?_
    obtain ⟨r7, h8, H⟩ := bnd H
    refine seq_run0 (stp_call (k_strings_Cut r5 [58] r7 h8) ⟨.inl rfl, .inl rfl, trivial⟩) ?_
    refine seq_run0 (stp_move (.dat _) rfl) ?_
    refine seq_run0 (stp_ext rfl rfl) ?_
    refine seq_run0 (stp_ext rfl rfl) ?_
    refine seq_run0 (stp_ext rfl rfl) ?_
    refine seq_run0 (stp_assign (.dat _) rfl) ?_
    refine seq_run0 (stp_assign (.dat _) rfl) ?_
    refine seq_run0 (stp_assign (.dat _) rfl) ?_
    refine awp_seq ?_
    refine awp_seq ?_
    refine awp_plain hN rfl ?_
    refine seq_run0 (stp_move (.dat _) rfl) ?_
    refine seq_run0 (stp_seql rfl rfl) ?_
    refine seq_run0 (stp_move (.dat _) rfl) ?_
    refine seq_aF rfl rfl (fun hc => stp_move (.dat _) rfl) ?_
    refine seq_aF rfl rfl (fun hc => stp_seql (cnd (c := (!(decide (r7.2.1 = [])))) hc) rfl) ?_
    refine seq_run0 (stp_pick_or rfl rfl (fun hb => (cnd (c := (!(decide (r7.2.1 = [])))) (notI hb)))) ?_
    refine seq_run0 (stp_move (.dat _) rfl) ?_
    refine seq_aF rfl rfl (fun hc => stp_move (.dat _) rfl) ?_
    refine seq_aF rfl rfl (fun hc => stp_seql (cnd (c := (!((decide (r7.2.1 = [])) || (decide (r7.2.1 = [56, 48]))))) hc) rfl) ?_
    refine seq_run0 (stp_pick_or rfl rfl (fun hb => (cnd (c := (!((decide (r7.2.1 = [])) || (decide (r7.2.1 = [56, 48]))))) (notI hb)))) ?_
    refine awp_cond _ rfl (fun h9 => ?_) (fun h9 => ?_)
    · replace H := ift h9 H
      refine awp_seq ?_
      refine awp_plain hN rfl ?_
      refine seq_run0 (stp_move (.dat _) rfl) ?_
      refine seq_run0 (stp_assign (.dat _) rfl) ?_
      refine seq_run0 (stp_assign (.dat _) rfl) ?_
      refine awp_ret ?_
      cases H
      exact ⟨trivial, .inl rfl, .inl rfl, trivial⟩
    · replace H := iff_ h9 H
      refine awp_skip ?_
      refine awp_seq ?_
      refine awp_plain hN rfl ?_
      refine seq_run0 (stp_move (.dat _) rfl) ?_
      obtain ⟨h10, H⟩ := gif H
      refine seq_run0 (stp_sadd rfl rfl (Nat.le_trans h10 (by decide))) ?_
      refine seq_run0 (stp_move (.dat _) rfl) ?_
      obtain ⟨h11, H⟩ := gif H
      refine seq_run0 (stp_sadd rfl rfl (Nat.le_trans h11 (by decide))) ?_
      refine seq_run0 (stp_assign (.dat _) rfl) ?_
      refine seq_run0 (stp_assign (.dat _) rfl) ?_
      refine awp_ret ?_
      cases H
      exact ⟨trivial, .inl rfl, .inl rfl, trivial⟩
theorem k_strings_IndexByte (l : Bs) (c r : Int) (H : m_strings_IndexByte l c = some r) : Fn Tryz.prog 101 [vstr l, vval (.int .u8 c)] (resOf [vint r]) := by
  cases H
  refine fn_of_calls (by kernel_rfl) fun M w vs h => ?_
  have h1 := Ts_vals (us := [.string ⟨l.toArray⟩, .int .u8 c]) h
  subst h1
  refine (Tryz.strings_IndexByte ⟨l.toArray⟩ c w).mono ?_
  rintro e w' ⟨rfl, rfl⟩
  exact ⟨_, rfl, rfl, Kp.refl _ _⟩
theorem k_gateref2_only (s1 : Bs) (some2 : Bs) (r : (Bool)) (H : m_gateref2_only s1 some2 = some r) : Fn Tryz.prog 86 [vstr s1, vstr some2] (resOf [vbool r]) := by
  refine ⟨by kernel_rfl, pure_of (us := [vbool r]) Tryz.func86 rfl rfl rfl rfl fun X hN => ?_⟩
  unfold m_gateref2_only at H
  refine awp_seq ?_
  refine awp_plain hN rfl ?_
  refine seq_run0 (stp_assign (.dat _) rfl) ?_
  refine awp_seq ?_
  refine awp_seq ?_
  refine awp_plain hN rfl ?_
  refine seq_run0 (stp_move (.dat _) rfl) ?_
  refine seq_run0 (stp_len_str tyU9 rfl) ?_
  refine seq_run0 (stp_move (.dat _) rfl) ?_
  refine awp_block ?_
  obtain ⟨h5, H⟩ := gif H
  refine awp_forL (fun (k3 : Nat) (s : Unit) => [(0, .dat (vstr s1)), (1, .dat (vstr some2)), (7, .dat (vint (s1.length : Int))), (8, .dat (vint (k3 : Int)))]) (fun (k3 : Nat) (s : Unit) => []) () H ⟨rfl, rfl, rfl, rfl, trivial⟩ trivial (fun _ _ => rfl) ?_ ?_
  · rintro ⟨⟩ H
    replace H : gateref2_only_E1 = some r := H
    unfold gateref2_only_E1 at H
    refine awp_seq ?_
    refine awp_plain hN rfl ?_
    refine seq_run0 (stp_lss rfl rfl) ?_
    refine awp_seq ?_
    refine awp_cond _ rfl (fun h => (lt_t h).elim) (fun h => ?_)
    refine awp_exit ?_
    refine awp_seq ?_
    refine awp_plain hN rfl ?_
    refine seq_run0 (stp_assign (.dat _) rfl) ?_
    refine awp_ret ?_
    cases H
    exact ⟨trivial, .inl rfl, trivial⟩
  · rintro k3 x6 ⟨⟩ q4 h7 h8 H hq4
    replace H : gateref2_only_L1 some2 k3 x6 = some q4 := H
    unfold gateref2_only_L1 at H
    refine awp_seq ?_
    refine awp_plain hN rfl ?_
    refine seq_run0 (stp_lss rfl rfl) ?_
    refine awp_seq ?_
    refine awp_cond _ rfl (fun h => ?_) (fun h => (lt_f h7 h).elim)
    refine awp_skip ?_
    refine awp_seq ?_
    refine awp_block ?_
    refine awp_seq ?_
    refine awp_plain hN rfl ?_
    refine seq_run0 (stp_move (.dat _) rfl) ?_
    refine seq_run0 (stp_assign (.dat _) rfl) ?_
    refine awp_seq ?_
    refine awp_plain hN rfl ?_
    refine seq_run0 (stp_move (.dat _) rfl) ?_
    refine seq_run0 (stp_move (.dat _) rfl) ?_
    refine seq_run0 (stp_move (.dat _) rfl) ?_
    refine seq_run0 (t_byte tyU9 rfl rfl h8) ?_
    obtain ⟨r9, h10, H⟩ := bnd H
    refine seq_run0 (stp_call (k_strings_IndexByte some2 (x6.toNat : Int) r9 h10) ⟨.inl rfl, .inl rfl, trivial⟩) ?_
    refine seq_run0 (stp_lss rfl rfl) ?_
    refine awp_cond _ rfl (fun h11 => ?_) (fun h11 => ?_)
    · replace H := ift h11 H
      refine awp_seq ?_
      refine awp_plain hN rfl ?_
      refine seq_run0 (stp_assign (.dat _) rfl) ?_
      refine awp_ret ?_
      replace H := retl H hq4
      cases H
      exact ⟨trivial, .inl rfl, trivial⟩
    · replace H := iff_ h11 H
      refine awp_skip ?_
      refine awp_plain hN rfl ?_
      refine seq_run0 (stp_add rfl rfl (by omega)) ?_
      refine seq_run0 (stp_move (.dat _) rfl) ?_
      exact ⟨_, backl H, ⟨rfl, rfl, rfl, rfl, trivial⟩, trivial⟩
theorem k_strconv_Itoa (n : Int) (r : Bs) (H : m_strconv_Itoa n = some r) : Fn Tryz.prog 109 [vint n] (resOf [vstr r]) := by
  obtain ⟨⟨h1, h2⟩, h3⟩ := gif H
  cases h3
  refine fn_of_callsG (by kernel_rfl) fun M w vs hM h => ?_
  have hv := Ts_vals (us := [.int .i64 n]) h
  subst hv
  refine (Tryz.strconv_Itoa n h1 h2 w (pow10_tab hM)).mono ?_
  rintro e w' ⟨rfl, k, os, rfl⟩
  exact ⟨_, rfl, rfl, Kp.of_below ⟨rfl, rfl, rfl, by show w.heap.size ≤ (w.heap ++ os).size; rw [Array.size_append]; omega, fun j hj => by show (w.heap ++ os)[j]? = w.heap[j]?; exact Array.getElem?_append_left hj⟩⟩
theorem k_gateref2_Number (s1 : Bs) (most2 : Int) (r : (Int × Bool)) (H : m_gateref2_Number s1 most2 = some r) : Fn Tryz.prog 84 [vstr s1, vint most2] (resOf [vint r.1, vbool r.2]) := by
  refine ⟨by kernel_rfl, pure_of (us := [vint r.1, vbool r.2]) Tryz.func84 rfl rfl rfl rfl fun X hN => ?_⟩
  unfold m_gateref2_Number at H
  refine awp_seq ?_
  refine awp_plain hN rfl ?_
  refine seq_run0 (stp_assign (.dat _) rfl) ?_
  refine seq_run0 (stp_assign (.dat _) rfl) ?_
  refine awp_seq ?_
  refine awp_plain hN rfl ?_
  refine seq_run0 (stp_move (.dat _) rfl) ?_
  obtain ⟨r3, h4, H⟩ := bnd H
  refine seq_run0 (stp_call (k_strings_TrimPrefix s1 [45] r3 h4) ⟨.inl rfl, .inl rfl, trivial⟩) ?_
  refine seq_run0 (stp_assign (.dat _) rfl) ?_
  refine awp_seq ?_
  refine awp_joinE (ι := Bool) (fun i => [(0, .dat (vstr s1)), (23, .dat (vbool i))]) (fun i => []) (fun i => gateref2_Number_J1 s1 i = some r) (fun i => rfl) ?_ ?_
  · skip
    refine awp_plain hN rfl ?_
    refine seq_run0 (stp_move (.dat _) rfl) ?_
    refine seq_run0 (stp_seql rfl rfl) ?_
    refine seq_run0 (stp_move (.dat _) rfl) ?_
    refine seq_split (j := 2) rfl rfl (fun h5 => ?_) (fun h5 => ?_) rfl
    · have h6 := un3 h5
      replace H := iff_ h6 H
      refine seq_g0 rfl rfl h5 (stp_move (.dat _) rfl) ?_
      refine seq_g0 rfl rfl h5 (stp_len_str tyU9 rfl) ?_
      refine seq_g0 rfl rfl h5 (stp_move (.dat _) rfl) ?_
      refine seq_g0 rfl rfl h5 (stp_gtr rfl rfl) ?_
      refine seq_run0 (stp_pick_f rfl (bFF h6) rfl) ?_
      refine seq_run0 (stp_move (.dat _) rfl) ?_
      refine seq_split (j := 8) rfl rfl (fun h7 => ?_) (fun h7 => ?_) rfl
      · have h8 := un3 h7
        replace H := iff_ h8 H
        refine seq_g0 rfl rfl h7 (stp_move (.dat _) rfl) ?_
        obtain ⟨r9, h10, H⟩ := bnd H
        refine seq_g0 rfl rfl h7 (stp_call (k_gateref2_only r3 [48, 49, 50, 51, 52, 53, 54, 55, 56, 57] r9 h10) ⟨.inl rfl, .inl rfl, trivial⟩) ?_
        refine seq_g0 rfl rfl h7 (stp_not rfl) ?_
        refine seq_run0 (stp_pick_f rfl (bFF h8) rfl) ?_
        exact ⟨!r9, H, ⟨rfl, rfl, trivial⟩, trivial⟩
      · have h11 := un4 h7
        replace H := ift h11 H
        refine seq_skip rfl rfl h7 ?_
        refine seq_skip rfl rfl h7 ?_
        refine seq_skip rfl rfl h7 ?_
        refine seq_run0 (stp_pick_t rfl (bTT h11) rfl) ?_
        exact ⟨true, H, ⟨rfl, rfl, trivial⟩, trivial⟩
    · have h12 := un4 h5
      replace H := ift h12 H
      refine seq_skip rfl rfl h5 ?_
      refine seq_skip rfl rfl h5 ?_
      refine seq_skip rfl rfl h5 ?_
      refine seq_skip rfl rfl h5 ?_
      refine seq_run0 (stp_pick_t rfl (bTT h12) rfl) ?_
      refine seq_run0 (stp_move (.dat _) rfl) ?_
      refine seq_skip rfl rfl rfl ?_
      refine seq_skip rfl rfl rfl ?_
      refine seq_skip rfl rfl rfl ?_
      refine seq_run0 (stp_pick_t rfl rfl rfl) ?_
      exact ⟨true, H, ⟨rfl, rfl, trivial⟩, trivial⟩
  · rintro v13 H
    replace H : gateref2_Number_J1 s1 v13 = some r := H
    unfold gateref2_Number_J1 at H
    refine awp_cond _ rfl (fun h14 => ?_) (fun h14 => ?_)
    · replace H := ift h14 H
      refine awp_seq ?_
      refine awp_plain hN rfl ?_
      refine seq_run0 (stp_assign (.dat _) rfl) ?_
      refine seq_run0 (stp_assign (.dat _) rfl) ?_
      refine awp_ret ?_
      cases H
      exact ⟨trivial, .inl rfl, .inl rfl, trivial⟩
    · replace H := iff_ h14 H
      refine awp_skip ?_
      refine awp_seq ?_
      refine awp_plain hN rfl ?_
      refine seq_run0 (stp_move (.dat _) rfl) ?_
      obtain ⟨r15, h16, H⟩ := bnd H
      refine seq_run0 (stp_call (k_strconv_Atoi s1 r15 h16) ⟨.inl rfl, trivial⟩) ?_
      refine seq_run0 (stp_move (.dat _) rfl) ?_
      refine seq_run0 (stp_ext rfl rfl) ?_
      refine seq_run0 (stp_ext rfl rfl) ?_
      refine seq_run0 (stp_assign (.dat _) rfl) ?_
      refine seq_run0 (stp_assign (.dat _) rfl) ?_
      refine awp_joinE (ι := Bool) (fun i => [(4, .dat (vint r15.1)), (5, .dat (vbool i))]) (fun i => []) (fun i => gateref2_Number_J2 r15 i = some r) (fun i => rfl) ?_ ?_
      · skip
        refine awp_plain hN rfl ?_
        refine seq_run0 (stp_move (.dat _) rfl) ?_
        refine seq_run0 (stp_move (.dat _) rfl) ?_
        refine seq_run0 (stp_erreql (n := r15.2) (show Tryz.prog.underlying 112 = some (.interface (Tryz.prog.methodsAt 112)) from by kernel_rfl) rfl) ?_
        refine seq_run0 (stp_move (.dat _) rfl) ?_
        refine seq_split (j := 3) rfl rfl (fun h17 => ?_) (fun h17 => ?_) rfl
        · have h18 := un1 h17
          replace H := ift h18 H
          refine seq_g0 rfl rfl h17 (stp_move (.dat _) rfl) ?_
          obtain ⟨r19, h20, H⟩ := bnd H
          refine seq_g0 rfl rfl h17 (stp_call (k_strconv_Itoa r15.1 r19 h20) ⟨.inl rfl, trivial⟩) ?_
          refine seq_g0 rfl rfl h17 (stp_move (.dat _) rfl) ?_
          refine seq_g0 rfl rfl h17 (stp_seql rfl rfl) ?_
          refine seq_run0 (stp_pick_t rfl (bTT h18) rfl) ?_
          refine seq_run0 (stp_assign (.dat _) rfl) ?_
          refine seq_run0 (stp_assign (.dat _) rfl) ?_
          exact ⟨decide (r19 = s1), H, ⟨rfl, rfl, trivial⟩, trivial⟩
        · have h21 := un2 h17
          replace H := iff_ h21 H
          refine seq_skip rfl rfl h17 ?_
          refine seq_skip rfl rfl h17 ?_
          refine seq_skip rfl rfl h17 ?_
          refine seq_skip rfl rfl h17 ?_
          refine seq_run0 (stp_pick_f rfl (bFF h21) rfl) ?_
          refine seq_run0 (stp_assign (.dat _) rfl) ?_
          refine seq_run0 (stp_assign (.dat _) rfl) ?_
          exact ⟨false, H, ⟨rfl, rfl, trivial⟩, trivial⟩
      · rintro v22 H
        replace H : gateref2_Number_J2 r15 v22 = some r := H
        unfold gateref2_Number_J2 at H
        refine awp_ret ?_
        cases H
        exact ⟨trivial, .inl rfl, .inl rfl, trivial⟩
theorem k_gateref2_in (n1 : Int) (low2 : Int) (high3 : Int) (r : (Bool)) (H : m_gateref2_in n1 low2 high3 = some r) : Fn Tryz.prog 79 [vint n1, vint low2, vint high3] (resOf [vbool r]) := by
  refine ⟨by kernel_rfl, pure_of (us := [vbool r]) Tryz.func79 rfl rfl rfl rfl fun X hN => ?_⟩
  unfold m_gateref2_in at H
  refine awp_seq ?_
  refine awp_plain hN rfl ?_
  refine seq_run0 (stp_assign (.dat _) rfl) ?_
  refine awp_seq ?_
  refine awp_plain hN rfl ?_
  refine seq_run0 (stp_move (.dat _) rfl) ?_
  refine seq_run0 (stp_move (.dat _) rfl) ?_
  refine seq_run0 (stp_leq rfl rfl) ?_
  refine seq_run0 (stp_move (.dat _) rfl) ?_
  refine seq_aT rfl rfl (fun hc => stp_move (.dat _) rfl) ?_
  refine seq_aT rfl rfl (fun hc => stp_move (.dat _) rfl) ?_
  refine seq_aT rfl rfl (fun hc => stp_leq (cnd (c := (decide (low2 ≤ n1))) hc) (cnd (c := (decide (low2 ≤ n1))) hc)) ?_
  refine seq_run0 (stp_pick_and rfl (fun hb => (cnd (c := (decide (low2 ≤ n1))) hb)) rfl) ?_
  refine seq_run0 (stp_assign (.dat _) rfl) ?_
  refine awp_ret ?_
  cases H
  exact ⟨trivial, .inl rfl, trivial⟩
theorem k_strings_trimRightByte (s1 : Bs) (c2 : Int) (r : (Bs)) (H : m_strings_trimRightByte s1 c2 = some r) : Fn Tryz.prog 150 [vstr s1, vval (.int .u8 c2)] (resOf [vstr r]) := by
  refine ⟨by kernel_rfl, pure_of (us := [vstr r]) Tryz.func150 rfl rfl rfl rfl fun X hN => ?_⟩
  unfold m_strings_trimRightByte at H
  refine awp_seq ?_
  refine awp_plain hN rfl ?_
  refine seq_run0 (stp_assign (.dat _) rfl) ?_
  refine awp_joinE (ι := Bs) (fun i => [(0, .dat (vstr i))]) (fun i => []) (fun i => strings_trimRightByte_J1 i = some r) (fun i => rfl) ?_ ?_
  · skip
    refine awp_block ?_
    refine awp_iter (fun (s : Bs) => [(0, .dat (vstr s)), (1, .dat (vval (.int .u8 c2)))]) (fun (s : Bs) => []) s1 H ⟨rfl, rfl, trivial⟩ trivial (fun _ => rfl) ?_
    rintro s3 q4 H hq4
    replace H : strings_trimRightByte_L2 c2 s3 = some q4 := H
    unfold strings_trimRightByte_L2 at H
    refine awp_seq ?_
    refine awp_joinE (ι := Bool) (fun i => [(0, .dat (vstr s3)), (1, .dat (vval (.int .u8 c2))), (16, .dat (vbool i))]) (fun i => []) (fun i => strings_trimRightByte_J3 s3 i = some q4) (fun i => rfl) ?_ ?_
    · skip
      refine awp_plain hN rfl ?_
      refine seq_run0 (stp_move (.dat _) rfl) ?_
      refine seq_run0 (stp_len_str tyU9 rfl) ?_
      refine seq_run0 (stp_gtr rfl rfl) ?_
      refine seq_run0 (stp_move (.dat _) rfl) ?_
      refine seq_split (j := 3) rfl rfl (fun h5 => ?_) (fun h5 => ?_) rfl
      · have h6 := un1 h5
        replace H := ift h6 H
        refine seq_g0 rfl rfl h5 (stp_move (.dat _) rfl) ?_
        refine seq_g0 rfl rfl h5 (stp_move (.dat _) rfl) ?_
        refine seq_g0 rfl rfl h5 (stp_len_str tyU9 rfl) ?_
        refine seq_g0 rfl rfl h5 (stp_wrap _ rfl rfl (.inr (.inl ⟨rfl, rfl⟩))) ?_
        obtain ⟨x7, h8, H⟩ := bnd H
        refine seq_g0 rfl rfl h5 (t_byteI tyU9 rfl rfl h8) ?_
        refine seq_g0 rfl rfl h5 (stp_move (.dat _) rfl) ?_
        refine seq_g0 rfl rfl h5 (stp_eql rfl rfl) ?_
        refine seq_run0 (stp_pick_t rfl (bTT h6) rfl) ?_
        exact ⟨decide ((x7.toNat : Int) = c2), H, ⟨rfl, rfl, rfl, trivial⟩, trivial⟩
      · have h9 := un2 h5
        replace H := iff_ h9 H
        refine seq_skip rfl rfl h5 ?_
        refine seq_skip rfl rfl h5 ?_
        refine seq_skip rfl rfl h5 ?_
        refine seq_skip rfl rfl h5 ?_
        refine seq_skip rfl rfl h5 ?_
        refine seq_skip rfl rfl h5 ?_
        refine seq_skip rfl rfl h5 ?_
        refine seq_run0 (stp_pick_f rfl (bFF h9) rfl) ?_
        exact ⟨false, H, ⟨rfl, rfl, rfl, trivial⟩, trivial⟩
    · rintro v10 H
      replace H : strings_trimRightByte_J3 s3 v10 = some q4 := H
      unfold strings_trimRightByte_J3 at H
      refine awp_cond _ rfl (fun h11 => ?_) (fun h11 => ?_)
      · replace H := ift h11 H
        refine awp_skip ?_
        refine awp_block ?_
        refine awp_plain hN rfl ?_
        refine seq_run0 (stp_move (.dat _) rfl) ?_
        refine seq_run0 (stp_move (.dat _) rfl) ?_
        refine seq_run0 (stp_len_str tyU9 rfl) ?_
        refine seq_run0 (stp_wrap _ rfl rfl (.inr (.inl ⟨rfl, rfl⟩))) ?_
        obtain ⟨l12, h13, H⟩ := bnd H
        refine seq_run0 (t_subS tyU9 rfl rfl rfl h13) ?_
        refine seq_run0 (stp_assign (.dat _) rfl) ?_
        exact ⟨_, backl H, ⟨rfl, rfl, trivial⟩, trivial⟩
      · replace H := iff_ h11 H
        refine awp_exit ?_
        replace H := outl H hq4
        exact ⟨s3, H, ⟨rfl, trivial⟩, trivial⟩
  · rintro s14 H
    replace H : strings_trimRightByte_J1 s14 = some r := H
    unfold strings_trimRightByte_J1 at H
    refine awp_seq ?_
    refine awp_plain hN rfl ?_
    refine seq_run0 (stp_move (.dat _) rfl) ?_
    refine seq_run0 (stp_assign (.dat _) rfl) ?_
    refine awp_ret ?_
    cases H
    exact ⟨trivial, .inl rfl, trivial⟩
theorem k_strings_trimLeftByte (s1 : Bs) (c2 : Int) (r : (Bs)) (H : m_strings_trimLeftByte s1 c2 = some r) : Fn Tryz.prog 149 [vstr s1, vval (.int .u8 c2)] (resOf [vstr r]) := by
  refine ⟨by kernel_rfl, pure_of (us := [vstr r]) Tryz.func149 rfl rfl rfl rfl fun X hN => ?_⟩
  unfold m_strings_trimLeftByte at H
  refine awp_seq ?_
  refine awp_plain hN rfl ?_
  refine seq_run0 (stp_assign (.dat _) rfl) ?_
  refine awp_joinE (ι := Bs) (fun i => [(0, .dat (vstr i))]) (fun i => []) (fun i => strings_trimLeftByte_J1 i = some r) (fun i => rfl) ?_ ?_
  · skip
    refine awp_block ?_
    refine awp_iter (fun (s : Bs) => [(0, .dat (vstr s)), (1, .dat (vval (.int .u8 c2)))]) (fun (s : Bs) => []) s1 H ⟨rfl, rfl, trivial⟩ trivial (fun _ => rfl) ?_
    rintro s3 q4 H hq4
    replace H : strings_trimLeftByte_L2 c2 s3 = some q4 := H
    unfold strings_trimLeftByte_L2 at H
    refine awp_seq ?_
    refine awp_joinE (ι := Bool) (fun i => [(0, .dat (vstr s3)), (1, .dat (vval (.int .u8 c2))), (13, .dat (vbool i))]) (fun i => []) (fun i => strings_trimLeftByte_J3 s3 i = some q4) (fun i => rfl) ?_ ?_
    · skip
      refine awp_plain hN rfl ?_
      refine seq_run0 (stp_move (.dat _) rfl) ?_
      refine seq_run0 (stp_len_str tyU9 rfl) ?_
      refine seq_run0 (stp_gtr rfl rfl) ?_
      refine seq_run0 (stp_move (.dat _) rfl) ?_
      refine seq_split (j := 3) rfl rfl (fun h5 => ?_) (fun h5 => ?_) rfl
      · have h6 := un1 h5
        replace H := ift h6 H
        refine seq_g0 rfl rfl h5 (stp_move (.dat _) rfl) ?_
        obtain ⟨x7, h8, H⟩ := bnd H
        refine seq_g0 rfl rfl h5 (t_byte tyU9 rfl rfl h8) ?_
        refine seq_g0 rfl rfl h5 (stp_move (.dat _) rfl) ?_
        refine seq_g0 rfl rfl h5 (stp_eql rfl rfl) ?_
        refine seq_run0 (stp_pick_t rfl (bTT h6) rfl) ?_
        exact ⟨decide ((x7.toNat : Int) = c2), H, ⟨rfl, rfl, rfl, trivial⟩, trivial⟩
      · have h9 := un2 h5
        replace H := iff_ h9 H
        refine seq_skip rfl rfl h5 ?_
        refine seq_skip rfl rfl h5 ?_
        refine seq_skip rfl rfl h5 ?_
        refine seq_skip rfl rfl h5 ?_
        refine seq_run0 (stp_pick_f rfl (bFF h9) rfl) ?_
        exact ⟨false, H, ⟨rfl, rfl, rfl, trivial⟩, trivial⟩
    · rintro v10 H
      replace H : strings_trimLeftByte_J3 s3 v10 = some q4 := H
      unfold strings_trimLeftByte_J3 at H
      refine awp_cond _ rfl (fun h11 => ?_) (fun h11 => ?_)
      · replace H := ift h11 H
        refine awp_skip ?_
        refine awp_block ?_
        refine awp_plain hN rfl ?_
        refine seq_run0 (stp_move (.dat _) rfl) ?_
        obtain ⟨l12, h13, H⟩ := bnd H
        refine seq_run0 (t_subS tyU9 rfl rfl rfl h13) ?_
        refine seq_run0 (stp_assign (.dat _) rfl) ?_
        exact ⟨_, backl H, ⟨rfl, rfl, trivial⟩, trivial⟩
      · replace H := iff_ h11 H
        refine awp_exit ?_
        replace H := outl H hq4
        exact ⟨s3, H, ⟨rfl, trivial⟩, trivial⟩
  · rintro s14 H
    replace H : strings_trimLeftByte_J1 s14 = some r := H
    unfold strings_trimLeftByte_J1 at H
    refine awp_seq ?_
    refine awp_plain hN rfl ?_
    refine seq_run0 (stp_move (.dat _) rfl) ?_
    refine seq_run0 (stp_assign (.dat _) rfl) ?_
    refine awp_ret ?_
    cases H
    exact ⟨trivial, .inl rfl, trivial⟩
theorem k_strings_Trim (s1 : Bs) (cutset2 : Bs) (r : (Bs)) (H : m_strings_Trim s1 cutset2 = some r) : Fn Tryz.prog 87 [vstr s1, vstr cutset2] (resOf [vstr r]) := by
  refine ⟨by kernel_rfl, pure_of (us := [vstr r]) Tryz.func87 rfl rfl rfl rfl fun X hN => ?_⟩
  unfold m_strings_Trim at H
  refine awp_seq ?_
  refine awp_plain hN rfl ?_
  refine seq_run0 (stp_assign (.dat _) rfl) ?_
  refine awp_seq ?_
  refine awp_seq ?_
  refine awp_plain hN rfl ?_
  refine seq_run0 (stp_move (.dat _) rfl) ?_
  refine seq_run0 (stp_seql rfl rfl) ?_
  refine seq_run0 (stp_move (.dat _) rfl) ?_
  refine seq_aF rfl rfl (fun hc => stp_move (.dat _) rfl) ?_
  refine seq_aF rfl rfl (fun hc => stp_seql (cnd (c := (!(decide (s1 = [])))) hc) rfl) ?_
  refine seq_run0 (stp_pick_or rfl rfl (fun hb => (cnd (c := (!(decide (s1 = [])))) (notI hb)))) ?_
  refine awp_cond _ rfl (fun h3 => ?_) (fun h3 => ?_)
  · replace H := ift h3 H
    refine awp_seq ?_
    refine awp_plain hN rfl ?_
    refine seq_run0 (stp_move (.dat _) rfl) ?_
    refine seq_run0 (stp_assign (.dat _) rfl) ?_
    refine awp_ret ?_
    cases H
    exact ⟨trivial, .inl rfl, trivial⟩
  · replace H := iff_ h3 H
    refine awp_skip ?_
    refine awp_seq ?_
    refine awp_joinE (ι := Bool) (fun i => [(0, .dat (vstr s1)), (1, .dat (vstr cutset2)), (21, .dat (vbool i))]) (fun i => []) (fun i => strings_Trim_J1 s1 cutset2 i = some r) (fun i => rfl) ?_ ?_
    · skip
      refine awp_plain hN rfl ?_
      refine seq_run0 (stp_move (.dat _) rfl) ?_
      refine seq_run0 (stp_len_str tyU9 rfl) ?_
      refine seq_run0 (stp_eql rfl rfl) ?_
      refine seq_run0 (stp_move (.dat _) rfl) ?_
      refine seq_split (j := 3) rfl rfl (fun h4 => ?_) (fun h4 => ?_) rfl
      · have h5 := un1 h4
        replace H := ift h5 H
        refine seq_g0 rfl rfl h4 (stp_move (.dat _) rfl) ?_
        obtain ⟨x6, h7, H⟩ := bnd H
        refine seq_g0 rfl rfl h4 (t_byte tyU9 rfl rfl h7) ?_
        refine seq_g0 rfl rfl h4 (stp_lss rfl rfl) ?_
        refine seq_run0 (stp_pick_t rfl (bTT h5) rfl) ?_
        exact ⟨decide ((x6.toNat : Int) < 128), H, ⟨rfl, rfl, rfl, trivial⟩, trivial⟩
      · have h8 := un2 h4
        replace H := iff_ h8 H
        refine seq_skip rfl rfl h4 ?_
        refine seq_skip rfl rfl h4 ?_
        refine seq_skip rfl rfl h4 ?_
        refine seq_run0 (stp_pick_f rfl (bFF h8) rfl) ?_
        exact ⟨false, H, ⟨rfl, rfl, rfl, trivial⟩, trivial⟩
    · rintro v9 H
      replace H : strings_Trim_J1 s1 cutset2 v9 = some r := H
      unfold strings_Trim_J1 at H
      refine awp_cond _ rfl (fun h10 => ?_) (fun h10 => ?_)
      · replace H := ift h10 H
        refine awp_seq ?_
        refine awp_draw mixed hN rfl rfl ?_
        refine seq_run0 (stp_move (.dat _) rfl) ?_
        refine seq_run0 (stp_move (.dat _) rfl) ?_
        obtain ⟨x11, h12, H⟩ := bnd H
        refine seq_run0 (t_byte tyU9 rfl rfl h12) ?_
        obtain ⟨r13, h14, H⟩ := bnd H
        refine seq_run0 (stp_call (k_strings_trimRightByte s1 (x11.toNat : Int) r13 h14) ⟨.inl rfl, .inl rfl, trivial⟩) ?_
        refine seq_run0 (stp_move (.dat _) rfl) ?_
        refine seq_run0 (t_byte tyU9 rfl rfl h12) ?_
        obtain ⟨r15, h16, H⟩ := bnd H
        refine seq_run0 (stp_call (k_strings_trimLeftByte r13 (x11.toNat : Int) r15 h16) ⟨.inl rfl, .inl rfl, trivial⟩) ?_
        refine seq_run0 (stp_assign (.dat _) rfl) ?_
        refine ⟨rfl, ?_⟩
        refine awp_ret ?_
        cases H
        exact ⟨trivial, .inl rfl, trivial⟩
      · replace H := iff_ h10 H
        cases H
theorem k_gateref2_HostOf (v1 : Bs) (r : (Bs × Int)) (H : m_gateref2_HostOf v1 = some r) : Fn Tryz.prog 25 [vstr v1] (resOf [vstr r.1, vint r.2]) := by
  refine ⟨by kernel_rfl, pure_of (us := [vstr r.1, vint r.2]) Tryz.func25 rfl rfl rfl rfl fun X hN => ?_⟩
  unfold m_gateref2_HostOf at H
  refine awp_seq ?_
  refine awp_plain hN rfl ?_
  refine seq_run0 (stp_assign (.dat _) rfl) ?_
  refine seq_run0 (stp_assign (.dat _) rfl) ?_
  refine awp_seq ?_
  refine awp_plain hN rfl ?_
  refine seq_run0 (stp_move (.dat _) rfl) ?_
  obtain ⟨r2, h3, H⟩ := bnd H
  refine seq_run0 (stp_call (k_strings_Cut v1 [58] r2 h3) ⟨.inl rfl, .inl rfl, trivial⟩) ?_
  refine seq_run0 (stp_move (.dat _) rfl) ?_
  refine seq_run0 (stp_ext rfl rfl) ?_
  refine seq_run0 (stp_ext rfl rfl) ?_
  refine seq_run0 (stp_ext rfl rfl) ?_
  refine seq_run0 (stp_assign (.dat _) rfl) ?_
  refine seq_run0 (stp_assign (.dat _) rfl) ?_
  refine seq_run0 (stp_assign (.dat _) rfl) ?_
  refine awp_seq ?_
  refine awp_plain hN rfl ?_
  refine seq_run0 (stp_move (.dat _) rfl) ?_
  obtain ⟨r4, h5, H⟩ := bnd H
  refine seq_run0 (stp_call (k_gateref2_Number r2.2.1 5 r4 h5) ⟨.inl rfl, .inl rfl, trivial⟩) ?_
  refine seq_run0 (stp_move (.dat _) rfl) ?_
  refine seq_run0 (stp_ext rfl rfl) ?_
  refine seq_run0 (stp_ext rfl rfl) ?_
  refine seq_run0 (stp_assign (.dat _) rfl) ?_
  refine seq_run0 (stp_assign (.dat _) rfl) ?_
  refine awp_seq ?_
  refine awp_joinE (ι := Bool) (fun i => [(4, .dat (vstr r2.1)), (5, .dat (vstr r2.2.1)), (6, .dat (vbool r2.2.2)), (7, .dat (vint r4.1)), (37, .dat (vbool i))]) (fun i => []) (fun i => gateref2_HostOf_J1 r2 r4 i = some r) (fun i => rfl) ?_ ?_
  · skip
    refine awp_plain hN rfl ?_
    refine seq_run0 (stp_move (.dat _) rfl) ?_
    refine seq_run0 (stp_len_str tyU9 rfl) ?_
    refine seq_run0 (stp_gtr rfl rfl) ?_
    refine seq_run0 (stp_move (.dat _) rfl) ?_
    refine seq_split (j := 3) rfl rfl (fun h6 => ?_) (fun h6 => ?_) rfl
    · have h7 := un3 h6
      replace H := iff_ h7 H
      refine seq_g0 rfl rfl h6 (stp_move (.dat _) rfl) ?_
      refine seq_g0 rfl rfl h6 (stp_move (.dat _) rfl) ?_
      refine seq_split (j := 5) rfl rfl (fun h8 => ?_) (fun h8 => ?_) rfl
      · have h9 := un1 h8
        replace H := ift h9 H
        refine seq_g0 rfl rfl h8 (stp_move (.dat _) rfl) ?_
        refine seq_g0 rfl rfl h8 (stp_not rfl) ?_
        refine seq_g0 rfl rfl h8 (stp_move (.dat _) rfl) ?_
        refine seq_split (j := 8) rfl rfl (fun h10 => ?_) (fun h10 => ?_) rfl
        · have h11 := un3 h10
          replace H := iff_ h11 H
          refine seq_g0 rfl rfl h10 (stp_move (.dat _) rfl) ?_
          obtain ⟨r12, h13, H⟩ := bnd H
          refine seq_g0 rfl rfl h10 (stp_call (k_gateref2_in r4.1 1 65535 r12 h13) ⟨.inl rfl, .inl rfl, .inl rfl, trivial⟩) ?_
          refine seq_g0 rfl rfl h10 (stp_not rfl) ?_
          refine seq_g0 rfl rfl h8 (stp_pick_f rfl (bFF h11) rfl) ?_
          refine seq_g0 rfl rfl h6 (stp_pick_t rfl (bTT h9) rfl) ?_
          refine seq_run0 (stp_pick_f rfl (bFF h7) rfl) ?_
          exact ⟨!r12, H, ⟨rfl, rfl, rfl, rfl, rfl, trivial⟩, trivial⟩
        · have h14 := un4 h10
          replace H := ift h14 H
          refine seq_skip rfl rfl h10 ?_
          refine seq_skip rfl rfl h10 ?_
          refine seq_skip rfl rfl h10 ?_
          refine seq_g0 rfl rfl h8 (stp_pick_t rfl (bTT h14) rfl) ?_
          refine seq_g0 rfl rfl h6 (stp_pick_t rfl (bTT h9) rfl) ?_
          refine seq_run0 (stp_pick_f rfl (bFF h7) rfl) ?_
          exact ⟨true, H, ⟨rfl, rfl, rfl, rfl, rfl, trivial⟩, trivial⟩
      · have h15 := un2 h8
        replace H := iff_ h15 H
        refine seq_skip rfl rfl h8 ?_
        refine seq_skip rfl rfl h8 ?_
        refine seq_skip rfl rfl h8 ?_
        refine seq_skipU rfl rfl ?_
        refine seq_skipU rfl rfl ?_
        refine seq_skipU rfl rfl ?_
        refine seq_skip rfl rfl h8 ?_
        refine seq_g0 rfl rfl h6 (stp_pick_f rfl (bFF h15) rfl) ?_
        refine seq_run0 (stp_pick_f rfl (bFF h7) rfl) ?_
        exact ⟨false, H, ⟨rfl, rfl, rfl, rfl, rfl, trivial⟩, trivial⟩
    · have h16 := un4 h6
      replace H := ift h16 H
      refine seq_skip rfl rfl h6 ?_
      refine seq_skip rfl rfl h6 ?_
      refine seq_skipU rfl rfl ?_
      refine seq_skipU rfl rfl ?_
      refine seq_skipU rfl rfl ?_
      refine seq_skipU rfl rfl ?_
      refine seq_skipU rfl rfl ?_
      refine seq_skipU rfl rfl ?_
      refine seq_skipU rfl rfl ?_
      refine seq_skip rfl rfl h6 ?_
      refine seq_run0 (stp_pick_t rfl (bTT h16) rfl) ?_
      exact ⟨true, H, ⟨rfl, rfl, rfl, rfl, rfl, trivial⟩, trivial⟩
  · rintro v17 H
    replace H : gateref2_HostOf_J1 r2 r4 v17 = some r := H
    unfold gateref2_HostOf_J1 at H
    refine awp_cond _ rfl (fun h18 => ?_) (fun h18 => ?_)
    · replace H := ift h18 H
      refine awp_seq ?_
      refine awp_plain hN rfl ?_
      refine seq_run0 (stp_assign (.dat _) rfl) ?_
      refine seq_run0 (stp_assign (.dat _) rfl) ?_
      refine awp_ret ?_
      cases H
      exact ⟨trivial, .inl rfl, .inl rfl, trivial⟩
    · replace H := iff_ h18 H
      refine awp_skip ?_
      refine awp_seq ?_
      refine awp_seq ?_
      refine awp_plain hN rfl ?_
      refine seq_run0 (stp_move (.dat _) rfl) ?_
      obtain ⟨r19, h20, H⟩ := bnd H
      refine seq_run0 (stp_call (k_strings_Split r2.1 [46] r19 h20) ⟨.inl rfl, .inl rfl, trivial⟩) ?_
      refine seq_run0 (t_len tyU41 rfl) ?_
      refine seq_run0 (stp_move (.dat _) rfl) ?_
      refine awp_block ?_
      obtain ⟨h23, H⟩ := gif H
      refine awp_forL (fun (k21 : Nat) (s : Unit) => [(4, .dat (vstr r2.1)), (5, .dat (vstr r2.2.1)), (6, .dat (vbool r2.2.2)), (7, .dat (vint r4.1)), (39, .dat (vlst (List.map C_string r19))), (40, .dat (vint (r19.length : Int))), (41, .dat (vint (k21 : Int)))]) (fun (k21 : Nat) (s : Unit) => []) () H ⟨rfl, rfl, rfl, rfl, rfl, rfl, rfl, trivial⟩ trivial (fun _ _ => rfl) ?_ ?_
      · rintro ⟨⟩ H
        replace H : gateref2_HostOf_E2 r2 r4 = some r := H
        unfold gateref2_HostOf_E2 at H
        refine awp_seq ?_
        refine awp_plain hN rfl ?_
        refine seq_run0 (stp_lss rfl rfl) ?_
        refine awp_seq ?_
        refine awp_cond _ rfl (fun h => (lt_t h).elim) (fun h => ?_)
        refine awp_exit ?_
        refine awp_seq ?_
        refine awp_plain hN rfl ?_
        refine seq_run0 (stp_move (.dat _) rfl) ?_
        obtain ⟨r25, h26, H⟩ := bnd H
        refine seq_run0 (stp_call (k_strings_ToLower r2.1 r25 h26) ⟨.inl rfl, trivial⟩) ?_
        refine seq_run0 (stp_assign (.dat _) rfl) ?_
        refine awp_joinE (ι := Bs) (fun i => [(11, .dat (vstr i))]) (fun i => []) (fun i => gateref2_HostOf_J3 i = some r) (fun i => rfl) ?_ ?_
        · skip
          refine awp_seq ?_
          refine awp_plain hN rfl ?_
          refine seq_run0 (stp_move (.dat _) rfl) ?_
          refine seq_run0 (stp_move (.dat _) rfl) ?_
          refine seq_aT rfl rfl (fun hc => stp_move (.dat _) rfl) ?_
          refine seq_aT rfl rfl (fun hc => stp_neq (cnd (c := r2.2.2) hc) rfl) ?_
          refine seq_run0 (stp_pick_and rfl (fun hb => (cnd (c := r2.2.2) hb)) rfl) ?_
          refine seq_run0 (stp_move (.dat _) rfl) ?_
          refine seq_aT rfl rfl (fun hc => stp_move (.dat _) rfl) ?_
          refine seq_aT rfl rfl (fun hc => stp_neq (cnd (c := (r2.2.2 && (decide (r4.1 ≠ 80)))) hc) rfl) ?_
          refine seq_run0 (stp_pick_and rfl (fun hb => (cnd (c := (r2.2.2 && (decide (r4.1 ≠ 80)))) hb)) rfl) ?_
          refine awp_cond _ rfl (fun h27 => ?_) (fun h27 => ?_)
          · replace H := ift h27 H
            refine awp_plain hN rfl ?_
            refine seq_run0 (stp_move (.dat _) rfl) ?_
            refine seq_run0 (stp_move (.dat _) rfl) ?_
            obtain ⟨h28, H⟩ := gif H
            refine seq_run0 (stp_sadd rfl rfl (Nat.le_trans h28 (by decide))) ?_
            obtain ⟨h29, H⟩ := gif H
            refine seq_run0 (stp_sadd rfl rfl (Nat.le_trans h29 (by decide))) ?_
            refine seq_run0 (stp_assign (.dat _) rfl) ?_
            exact ⟨(r25 ++ ([58] ++ r2.2.1)), H, ⟨rfl, trivial⟩, trivial⟩
          · replace H := iff_ h27 H
            refine awp_skip ?_
            exact ⟨r25, H, ⟨rfl, trivial⟩, trivial⟩
        · rintro v30 H
          replace H : gateref2_HostOf_J3 v30 = some r := H
          unfold gateref2_HostOf_J3 at H
          refine awp_seq ?_
          refine awp_plain hN rfl ?_
          refine seq_run0 (stp_move (.dat _) rfl) ?_
          refine seq_run0 (stp_assign (.dat _) rfl) ?_
          refine seq_run0 (stp_assign (.dat _) rfl) ?_
          refine awp_ret ?_
          cases H
          exact ⟨trivial, .inl rfl, .inl rfl, trivial⟩
      · rintro k21 x24 ⟨⟩ q22 h31 h32 H hq22
        replace H : gateref2_HostOf_L2 k21 x24 = some q22 := H
        unfold gateref2_HostOf_L2 at H
        refine awp_seq ?_
        refine awp_plain hN rfl ?_
        refine seq_run0 (stp_lss rfl rfl) ?_
        refine awp_seq ?_
        refine awp_cond _ rfl (fun h => ?_) (fun h => (lt_f h31 h).elim)
        refine awp_skip ?_
        refine awp_seq ?_
        refine awp_block ?_
        refine awp_seq ?_
        refine awp_plain hN rfl ?_
        refine seq_run0 (t_idx tyE41 (fun _ => rfl) rfl rfl h32) ?_
        refine seq_run0 (stp_loadE1 tyS9 rfl (map_at h32) rfl) ?_
        refine seq_run0 (stp_assign (.dat _) rfl) ?_
        refine awp_joinE (ι := Bool) (fun i => [(4, .dat (vstr r2.1)), (5, .dat (vstr r2.2.1)), (6, .dat (vbool r2.2.2)), (7, .dat (vint r4.1)), (39, .dat (vlst (List.map C_string r19))), (40, .dat (vint (r19.length : Int))), (41, .dat (vint (k21 : Int))), (59, .dat (vbool i))]) (fun i => []) (fun i => gateref2_HostOf_J4 i = some q22) (fun i => rfl) ?_ ?_
        · skip
          refine awp_plain hN rfl ?_
          refine seq_run0 (stp_move (.dat _) rfl) ?_
          refine seq_run0 (stp_len_str tyU9 rfl) ?_
          obtain ⟨r33, h34, H⟩ := bnd H
          refine seq_run0 (stp_call (k_gateref2_in (x24.length : Int) 1 63 r33 h34) ⟨.inl rfl, .inl rfl, .inl rfl, trivial⟩) ?_
          refine seq_run0 (stp_not rfl) ?_
          refine seq_run0 (stp_move (.dat _) rfl) ?_
          refine seq_split (j := 4) rfl rfl (fun h35 => ?_) (fun h35 => ?_) rfl
          · have h36 := un3 h35
            replace H := iff_ h36 H
            refine seq_g0 rfl rfl h35 (stp_move (.dat _) rfl) ?_
            obtain ⟨r37, h38, H⟩ := bnd H
            refine seq_g0 rfl rfl h35 (stp_call (k_gateref2_only x24 [97, 98, 99, 100, 101, 102, 103, 104, 105, 106, 107, 108, 109, 110, 111, 112, 113, 114, 115, 116, 117, 118, 119, 120, 121, 122, 65, 66, 67, 68, 69, 70, 71, 72, 73, 74, 75, 76, 77, 78, 79, 80, 81, 82, 83, 84, 85, 86, 87, 88, 89, 90, 48, 49, 50, 51, 52, 53, 54, 55, 56, 57, 45] r37 h38) ⟨.inl rfl, .inl rfl, trivial⟩) ?_
            refine seq_g0 rfl rfl h35 (stp_not rfl) ?_
            refine seq_run0 (stp_pick_f rfl (bFF h36) rfl) ?_
            refine seq_run0 (stp_move (.dat _) rfl) ?_
            refine seq_split (j := 9) rfl rfl (fun h39 => ?_) (fun h39 => ?_) rfl
            · have h40 := un3 h39
              replace H := iff_ h40 H
              refine seq_g0 rfl rfl h39 (stp_move (.dat _) rfl) ?_
              obtain ⟨r41, h42, H⟩ := bnd H
              refine seq_g0 rfl rfl h39 (stp_call (k_strings_Trim x24 [45] r41 h42) ⟨.inl rfl, .inl rfl, trivial⟩) ?_
              refine seq_g0 rfl rfl h39 (stp_move (.dat _) rfl) ?_
              refine seq_g0 rfl rfl h39 (stp_sneq rfl rfl) ?_
              refine seq_run0 (stp_pick_f rfl (bFF h40) rfl) ?_
              exact ⟨decide (r41 ≠ x24), H, ⟨rfl, rfl, rfl, rfl, rfl, rfl, rfl, rfl, trivial⟩, trivial⟩
            · have h43 := un4 h39
              replace H := ift h43 H
              refine seq_skip rfl rfl h39 ?_
              refine seq_skip rfl rfl h39 ?_
              refine seq_skip rfl rfl h39 ?_
              refine seq_skip rfl rfl h39 ?_
              refine seq_run0 (stp_pick_t rfl (bTT h43) rfl) ?_
              exact ⟨true, H, ⟨rfl, rfl, rfl, rfl, rfl, rfl, rfl, rfl, trivial⟩, trivial⟩
          · have h44 := un4 h35
            replace H := ift h44 H
            refine seq_skip rfl rfl h35 ?_
            refine seq_skip rfl rfl h35 ?_
            refine seq_skip rfl rfl h35 ?_
            refine seq_run0 (stp_pick_t rfl (bTT h44) rfl) ?_
            refine seq_run0 (stp_move (.dat _) rfl) ?_
            refine seq_skip rfl rfl rfl ?_
            refine seq_skip rfl rfl rfl ?_
            refine seq_skip rfl rfl rfl ?_
            refine seq_skip rfl rfl rfl ?_
            refine seq_run0 (stp_pick_t rfl rfl rfl) ?_
            exact ⟨true, H, ⟨rfl, rfl, rfl, rfl, rfl, rfl, rfl, rfl, trivial⟩, trivial⟩
        · rintro v45 H
          replace H : gateref2_HostOf_J4 v45 = some q22 := H
          unfold gateref2_HostOf_J4 at H
          refine awp_cond _ rfl (fun h46 => ?_) (fun h46 => ?_)
          · replace H := ift h46 H
            refine awp_seq ?_
            refine awp_plain hN rfl ?_
            refine seq_run0 (stp_assign (.dat _) rfl) ?_
            refine seq_run0 (stp_assign (.dat _) rfl) ?_
            refine awp_ret ?_
            replace H := retl H hq22
            cases H
            exact ⟨trivial, .inl rfl, .inl rfl, trivial⟩
          · replace H := iff_ h46 H
            refine awp_skip ?_
            refine awp_plain hN rfl ?_
            refine seq_run0 (stp_add rfl rfl (by omega)) ?_
            refine seq_run0 (stp_move (.dat _) rfl) ?_
            exact ⟨_, backl H, ⟨rfl, rfl, rfl, rfl, rfl, rfl, rfl, trivial⟩, trivial⟩
theorem k_strings_HasPrefix (s p : Bs) (r : Bool) (H : m_strings_HasPrefix s p = some r) : Fn Tryz.prog 135 [vstr s, vstr p] (resOf [vbool r]) := by
  cases H
  refine fn_of_calls (by kernel_rfl) fun M w vs h => ?_
  have h1 := Ts_vals (us := [.string ⟨s.toArray⟩, .string ⟨p.toArray⟩]) h
  subst h1
  refine (Tryz.strings_HasPrefix ⟨s.toArray⟩ ⟨p.toArray⟩ w).mono ?_
  rintro e w' ⟨rfl, rfl⟩
  exact ⟨_, rfl, rfl, Kp.refl _ _⟩
theorem k_message_isRange (s1 : Bs) (low2 : Int) (high3 : Int) (r : (Bool)) (H : m_message_isRange s1 low2 high3 = some r) : Fn Tryz.prog 138 [vstr s1, vval (.int .u8 low2), vval (.int .u8 high3)] (resOf [vbool r]) := by
  refine ⟨by kernel_rfl, pure_of (us := [vbool r]) Tryz.func138 rfl rfl rfl rfl fun X hN => ?_⟩
  unfold m_message_isRange at H
  refine awp_seq ?_
  refine awp_plain hN rfl ?_
  refine seq_run0 (stp_assign (.dat _) rfl) ?_
  refine awp_seq ?_
  refine awp_seq ?_
  refine awp_plain hN rfl ?_
  refine seq_run0 (stp_move (.dat _) rfl) ?_
  refine seq_run0 (stp_len_str tyU9 rfl) ?_
  refine seq_run0 (stp_move (.dat _) rfl) ?_
  refine awp_block ?_
  obtain ⟨h6, H⟩ := gif H
  refine awp_forL (fun (k4 : Nat) (s : Unit) => [(0, .dat (vstr s1)), (1, .dat (vval (.int .u8 low2))), (2, .dat (vval (.int .u8 high3))), (9, .dat (vint (s1.length : Int))), (10, .dat (vint (k4 : Int)))]) (fun (k4 : Nat) (s : Unit) => []) () H ⟨rfl, rfl, rfl, rfl, rfl, trivial⟩ trivial (fun _ _ => rfl) ?_ ?_
  · rintro ⟨⟩ H
    replace H : message_isRange_E1 = some r := H
    unfold message_isRange_E1 at H
    refine awp_seq ?_
    refine awp_plain hN rfl ?_
    refine seq_run0 (stp_lss rfl rfl) ?_
    refine awp_seq ?_
    refine awp_cond _ rfl (fun h => (lt_t h).elim) (fun h => ?_)
    refine awp_exit ?_
    refine awp_seq ?_
    refine awp_plain hN rfl ?_
    refine seq_run0 (stp_assign (.dat _) rfl) ?_
    refine awp_ret ?_
    cases H
    exact ⟨trivial, .inl rfl, trivial⟩
  · rintro k4 x7 ⟨⟩ q5 h8 h9 H hq5
    replace H : message_isRange_L1 low2 high3 k4 x7 = some q5 := H
    unfold message_isRange_L1 at H
    refine awp_seq ?_
    refine awp_plain hN rfl ?_
    refine seq_run0 (stp_lss rfl rfl) ?_
    refine awp_seq ?_
    refine awp_cond _ rfl (fun h => ?_) (fun h => (lt_f h8 h).elim)
    refine awp_skip ?_
    refine awp_seq ?_
    refine awp_block ?_
    refine awp_seq ?_
    refine awp_plain hN rfl ?_
    refine seq_run0 (stp_move (.dat _) rfl) ?_
    refine seq_run0 (stp_assign (.dat _) rfl) ?_
    refine awp_joinE (ι := Bool) (fun i => [(0, .dat (vstr s1)), (1, .dat (vval (.int .u8 low2))), (2, .dat (vval (.int .u8 high3))), (9, .dat (vint (s1.length : Int))), (10, .dat (vint (k4 : Int))), (24, .dat (vbool i))]) (fun i => []) (fun i => message_isRange_J2 i = some q5) (fun i => rfl) ?_ ?_
    · skip
      refine awp_plain hN rfl ?_
      refine seq_run0 (stp_move (.dat _) rfl) ?_
      refine seq_run0 (stp_move (.dat _) rfl) ?_
      refine seq_run0 (t_byte tyU9 rfl rfl h9) ?_
      refine seq_run0 (stp_move (.dat _) rfl) ?_
      refine seq_run0 (stp_lss rfl rfl) ?_
      refine seq_run0 (stp_move (.dat _) rfl) ?_
      refine seq_split (j := 5) rfl rfl (fun h10 => ?_) (fun h10 => ?_) rfl
      · have h11 := un3 h10
        replace H := iff_ h11 H
        refine seq_g0 rfl rfl h10 (stp_move (.dat _) rfl) ?_
        refine seq_g0 rfl rfl h10 (stp_move (.dat _) rfl) ?_
        refine seq_g0 rfl rfl h10 (t_byte tyU9 rfl rfl h9) ?_
        refine seq_g0 rfl rfl h10 (stp_move (.dat _) rfl) ?_
        refine seq_g0 rfl rfl h10 (stp_gtr rfl rfl) ?_
        refine seq_run0 (stp_pick_f rfl (bFF h11) rfl) ?_
        exact ⟨decide (high3 < (x7.toNat : Int)), H, ⟨rfl, rfl, rfl, rfl, rfl, rfl, trivial⟩, trivial⟩
      · have h12 := un4 h10
        replace H := ift h12 H
        refine seq_skip rfl rfl h10 ?_
        refine seq_skip rfl rfl h10 ?_
        refine seq_skip rfl rfl h10 ?_
        refine seq_skip rfl rfl h10 ?_
        refine seq_skip rfl rfl h10 ?_
        refine seq_run0 (stp_pick_t rfl (bTT h12) rfl) ?_
        exact ⟨true, H, ⟨rfl, rfl, rfl, rfl, rfl, rfl, trivial⟩, trivial⟩
    · rintro v13 H
      replace H : message_isRange_J2 v13 = some q5 := H
      unfold message_isRange_J2 at H
      refine awp_cond _ rfl (fun h14 => ?_) (fun h14 => ?_)
      · replace H := ift h14 H
        refine awp_seq ?_
        refine awp_plain hN rfl ?_
        refine seq_run0 (stp_assign (.dat _) rfl) ?_
        refine awp_ret ?_
        replace H := retl H hq5
        cases H
        exact ⟨trivial, .inl rfl, trivial⟩
      · replace H := iff_ h14 H
        refine awp_skip ?_
        refine awp_plain hN rfl ?_
        refine seq_run0 (stp_add rfl rfl (by omega)) ?_
        refine seq_run0 (stp_move (.dat _) rfl) ?_
        exact ⟨_, backl H, ⟨rfl, rfl, rfl, rfl, rfl, trivial⟩, trivial⟩
theorem k_strings_ContainsAny (s p : Bs) (r : Bool) (H : m_strings_ContainsAny s p = some r) : Fn Tryz.prog 141 [vstr s, vstr p] (resOf [vbool r]) := by
  unfold m_strings_ContainsAny at H
  obtain ⟨⟨⟨h1, h2⟩, h3, h4⟩, h5⟩ := gif H
  cases h5
  refine fn_of_callsG (by kernel_rfl) fun M w vs hM h => ?_
  have hv := Ts_vals (us := [.string ⟨s.toArray⟩, .string ⟨p.toArray⟩]) h
  subst hv
  refine (Tryz.strings_ContainsAny_laid ⟨s.toArray⟩ ⟨p.toArray⟩ w (by simp [ByteArray.size]; omega) (by simp [ByteArray.size]; omega) (fun j b hb => ascB_at h3 j b (by simpa using hb)) (fun j b hb => ascB_at h4 j b (by simpa using hb))).mono ?_
  rintro e w' ⟨rfl, hb⟩
  exact ⟨_, rfl, rfl, Kp.of_below hb⟩

theorem k_message_PathFault (s1 : Bs) (r : (Int)) (H : m_message_PathFault s1 = some r) : Fn Tryz.prog 73 [vstr s1] (resOf [vint r]) := by
  refine ⟨by kernel_rfl, pure_of (us := [vint r]) Tryz.func73 rfl rfl rfl rfl fun X hN => ?_⟩
  unfold m_message_PathFault at H
  refine awp_seq ?_
  refine awp_plain hN rfl ?_
  refine seq_run0 (stp_assign (.dat _) rfl) ?_
  refine awp_seq ?_
  refine awp_joinE (ι := Bool) (fun i => [(19, .dat (vbool i))]) (fun i => []) (fun i => message_PathFault_J1 i = some r) (fun i => rfl) ?_ ?_
  · skip
    refine awp_plain hN rfl ?_
    refine seq_run0 (stp_move (.dat _) rfl) ?_
    refine seq_run0 (stp_len_str tyU9 rfl) ?_
    refine seq_run0 (stp_gtr rfl rfl) ?_
    refine seq_run0 (stp_move (.dat _) rfl) ?_
    refine seq_split (j := 3) rfl rfl (fun h2 => ?_) (fun h2 => ?_) rfl
    · have h3 := un3 h2
      replace H := iff_ h3 H
      refine seq_g0 rfl rfl h2 (stp_move (.dat _) rfl) ?_
      obtain ⟨r4, h5, H⟩ := bnd H
      refine seq_g0 rfl rfl h2 (stp_call (k_strings_HasPrefix s1 [47] r4 h5) ⟨.inl rfl, .inl rfl, trivial⟩) ?_
      refine seq_g0 rfl rfl h2 (stp_not rfl) ?_
      refine seq_run0 (stp_pick_f rfl (bFF h3) rfl) ?_
      refine seq_run0 (stp_move (.dat _) rfl) ?_
      refine seq_split (j := 8) rfl rfl (fun h6 => ?_) (fun h6 => ?_) rfl
      · have h7 := un3 h6
        replace H := iff_ h7 H
        refine seq_g0 rfl rfl h6 (stp_move (.dat _) rfl) ?_
        obtain ⟨r8, h9, H⟩ := bnd H
        refine seq_g0 rfl rfl h6 (stp_call (k_message_isRange s1 33 126 r8 h9) ⟨.inl rfl, .inl rfl, .inl rfl, trivial⟩) ?_
        refine seq_g0 rfl rfl h6 (stp_not rfl) ?_
        refine seq_run0 (stp_pick_f rfl (bFF h7) rfl) ?_
        refine seq_run0 (stp_move (.dat _) rfl) ?_
        refine seq_split (j := 13) rfl rfl (fun h10 => ?_) (fun h10 => ?_) rfl
        · have h11 := un3 h10
          replace H := iff_ h11 H
          refine seq_g0 rfl rfl h10 (stp_move (.dat _) rfl) ?_
          obtain ⟨r12, h13, H⟩ := bnd H
          refine seq_g0 rfl rfl h10 (stp_call (k_strings_ContainsAny s1 [63, 35] r12 h13) ⟨.inl rfl, .inl rfl, trivial⟩) ?_
          refine seq_run0 (stp_pick_f rfl (bFF h11) rfl) ?_
          exact ⟨r12, H, ⟨rfl, trivial⟩, trivial⟩
        · have h14 := un4 h10
          replace H := ift h14 H
          refine seq_skip rfl rfl h10 ?_
          refine seq_skip rfl rfl h10 ?_
          refine seq_run0 (stp_pick_t rfl (bTT h14) rfl) ?_
          exact ⟨true, H, ⟨rfl, trivial⟩, trivial⟩
      · have h15 := un4 h6
        replace H := ift h15 H
        refine seq_skip rfl rfl h6 ?_
        refine seq_skip rfl rfl h6 ?_
        refine seq_skip rfl rfl h6 ?_
        refine seq_run0 (stp_pick_t rfl (bTT h15) rfl) ?_
        refine seq_run0 (stp_move (.dat _) rfl) ?_
        refine seq_skip rfl rfl rfl ?_
        refine seq_skip rfl rfl rfl ?_
        refine seq_run0 (stp_pick_t rfl rfl rfl) ?_
        exact ⟨true, H, ⟨rfl, trivial⟩, trivial⟩
    · have h16 := un4 h2
      replace H := ift h16 H
      refine seq_skip rfl rfl h2 ?_
      refine seq_skip rfl rfl h2 ?_
      refine seq_skip rfl rfl h2 ?_
      refine seq_run0 (stp_pick_t rfl (bTT h16) rfl) ?_
      refine seq_run0 (stp_move (.dat _) rfl) ?_
      refine seq_skip rfl rfl rfl ?_
      refine seq_skip rfl rfl rfl ?_
      refine seq_skip rfl rfl rfl ?_
      refine seq_run0 (stp_pick_t rfl rfl rfl) ?_
      refine seq_run0 (stp_move (.dat _) rfl) ?_
      refine seq_skip rfl rfl rfl ?_
      refine seq_skip rfl rfl rfl ?_
      refine seq_run0 (stp_pick_t rfl rfl rfl) ?_
      exact ⟨true, H, ⟨rfl, trivial⟩, trivial⟩
  · rintro v17 H
    replace H : message_PathFault_J1 v17 = some r := H
    unfold message_PathFault_J1 at H
    refine awp_cond _ rfl (fun h18 => ?_) (fun h18 => ?_)
    · replace H := ift h18 H
      refine awp_seq ?_
      refine awp_plain hN rfl ?_
      refine seq_run0 (stp_assign (.dat _) rfl) ?_
      refine awp_ret ?_
      cases H
      exact ⟨trivial, .inl rfl, trivial⟩
    · replace H := iff_ h18 H
      refine awp_skip ?_
      refine awp_seq ?_
      refine awp_plain hN rfl ?_
      refine seq_run0 (stp_assign (.dat _) rfl) ?_
      refine awp_ret ?_
      cases H
      exact ⟨trivial, .inl rfl, trivial⟩
theorem kb_strings_Builder_WriteByte (l1 : (List Int)) (c2 : Int) (r : (Int × (List Int))) (H : m_strings_Builder_WriteByte l1 c2 = some r) : FnG Tryz.prog 143 [.ptr 0 0, .dat (vval (.int .u8 c2))] [(0, .box (some 0) 110 [.nptr 0, .row 1 l1.length]), (1, .row 5 1 (List.map C_uint8 l1))] (.dat (resOf [verr r.1])) [(0, .box (some 0) 110 [.nptr 0, .row 900 r.2.length]), (900, .row 5 1 (List.map C_uint8 r.2))] := by
  refine fnG_of (by kernel_rfl) Tryz.func143 rfl rfl rfl rfl fun X A hN => ?_
  refine awp_cv ?_
  unfold m_strings_Builder_WriteByte at H
  refine awp_seq ?_
  refine awp_plain hN rfl ?_
  refine seq_run0 (stp_assign (.dat _) rfl) ?_
  refine awp_seq ?_
  refine awp_plain hN rfl ?_
  refine seq_run0 (stp_move (.ptr _ _) rfl) ?_
  refine seq_run2 (stp_cc cc_prog rfl) rfl ?_
  refine awp_seq ?_
  refine awp_plain hN rfl ?_
  refine seq_run0 (stp_move (.ptr _ _) rfl) ?_
  refine seq_run0 (stp_move (.ptr _ _) rfl) ?_
  refine seq_run0 (stp_nilP rfl) ?_
  refine seq_run0 (stp_fldP tyF110_1 rfl) ?_
  refine seq_run1 (stp_load1 tyS46 rfl rfl) rfl ?_
  refine seq_run0 (stp_move (.dat _) rfl) ?_
  refine seq_run0 (stp_dat (u' := vlst (List.map C_uint8 [c2])) (stp_lit [[_]] tyL46 ⟨rfl, .inl ⟨_, rfl, rfl, rfl⟩, rfl, trivial⟩ rfl rfl) rfl) ?_
  obtain ⟨h3, H⟩ := gif H
  refine seq_run2 (t_app tyL46 (fun _ => rfl) rfl rfl rfl ⟨by simp, by simpa using h3⟩ rfl) rfl ?_
  refine seq_run0 (stp_nilP rfl) ?_
  refine seq_run0 (stp_fldP tyF110_1 rfl) ?_
  refine seq_run4 (stp_storeS tyS46 rfl rfl (by rw [List.length_map]) rfl) rfl rfl ?_
  refine awp_seq ?_
  refine awp_plain hN rfl ?_
  refine seq_run0 (stp_assign (.dat _) rfl) ?_
  refine awp_ret ?_
  cases H
  show Cv _ _ _ _
  refine cv_ren (rn [(1, 900)]) [(4, .dat (verr 0))] [(0, .box (some (A.bl 0)) 110 [.nptr 0, .row 1 ((l1 ++ [c2]).length)]), (1, .row 5 1 (List.map C_uint8 (l1 ++ [c2])))] ⟨rfl, trivial⟩ ⟨rfl, rfl, trivial⟩ rfl rfl ?_
  exact ⟨trivial, [(4, .dat (verr 0))], ⟨rfl, trivial⟩, ⟨rfl, rfl, trivial⟩, rfl, .inl ⟨[verr 0], ⟨rfl, trivial⟩, rfl⟩⟩
theorem k_message_isHex (c1 : Int) (r : (Bool)) (H : m_message_isHex c1 = some r) : Fn Tryz.prog 207 [vval (.int .u8 c1)] (resOf [vbool r]) := by
  refine ⟨by kernel_rfl, pure_of (us := [vbool r]) Tryz.func207 rfl rfl rfl rfl fun X hN => ?_⟩
  unfold m_message_isHex at H
  refine awp_seq ?_
  refine awp_plain hN rfl ?_
  refine seq_run0 (stp_assign (.dat _) rfl) ?_
  refine awp_seq ?_
  refine awp_plain hN rfl ?_
  refine seq_run0 (stp_move (.dat _) rfl) ?_
  obtain ⟨r2, h3, H⟩ := bnd H
  refine seq_run0 (stp_call (k_message_isDigit c1 r2 h3) ⟨.inl rfl, trivial⟩) ?_
  refine seq_run0 (stp_move (.dat _) rfl) ?_
  refine seq_aF rfl rfl (fun hc => stp_move (.dat _) rfl) ?_
  refine seq_aF rfl rfl (fun hc => stp_geq (cnd (c := (!r2)) hc) rfl) ?_
  refine seq_aF rfl rfl (fun hc => stp_move (.dat _) (cnd (c := (!r2)) hc)) ?_
  refine seq_bT rfl rfl (fun hc => stp_move (.dat _) rfl) ?_
  refine seq_bT rfl rfl (fun hc => stp_leq (cnd (c := ((!r2) && (decide (97 ≤ c1)))) hc) rfl) ?_
  refine seq_aF rfl rfl (fun hc => stp_pick_and (cnd (c := (!r2)) hc) (fun hb => (cnd (c := ((!r2) && (decide (97 ≤ c1)))) (andI hc hb))) rfl) ?_
  refine seq_run0 (stp_pick_or rfl rfl (fun hb => (cnd (c := (!r2)) (notI hb)))) ?_
  refine seq_run0 (stp_move (.dat _) rfl) ?_
  refine seq_aF rfl rfl (fun hc => stp_move (.dat _) rfl) ?_
  refine seq_aF rfl rfl (fun hc => stp_geq (cnd (c := (!(r2 || ((decide (97 ≤ c1)) && (decide (c1 ≤ 102)))))) hc) rfl) ?_
  refine seq_aF rfl rfl (fun hc => stp_move (.dat _) (cnd (c := (!(r2 || ((decide (97 ≤ c1)) && (decide (c1 ≤ 102)))))) hc)) ?_
  refine seq_bT rfl rfl (fun hc => stp_move (.dat _) rfl) ?_
  refine seq_bT rfl rfl (fun hc => stp_leq (cnd (c := ((!(r2 || ((decide (97 ≤ c1)) && (decide (c1 ≤ 102))))) && (decide (65 ≤ c1)))) hc) rfl) ?_
  refine seq_aF rfl rfl (fun hc => stp_pick_and (cnd (c := (!(r2 || ((decide (97 ≤ c1)) && (decide (c1 ≤ 102)))))) hc) (fun hb => (cnd (c := ((!(r2 || ((decide (97 ≤ c1)) && (decide (c1 ≤ 102))))) && (decide (65 ≤ c1)))) (andI hc hb))) rfl) ?_
  refine seq_run0 (stp_pick_or rfl rfl (fun hb => (cnd (c := (!(r2 || ((decide (97 ≤ c1)) && (decide (c1 ≤ 102)))))) (notI hb)))) ?_
  refine seq_run0 (stp_assign (.dat _) rfl) ?_
  refine awp_ret ?_
  cases H
  exact ⟨trivial, .inl rfl, trivial⟩
theorem k_message_isUnit (s1 : Bs) (v2 : Int) (r : (Bool)) (H : m_message_isUnit s1 v2 = some r) : Fn Tryz.prog 156 [vstr s1, vint v2] (resOf [vbool r]) := by
  refine ⟨by kernel_rfl, pure_of (us := [vbool r]) Tryz.func156 rfl rfl rfl rfl fun X hN => ?_⟩
  unfold m_message_isUnit at H
  refine awp_seq ?_
  refine awp_plain hN rfl ?_
  refine seq_run0 (stp_assign (.dat _) rfl) ?_
  refine awp_joinE (ι := Bool) (fun i => [(4, .dat (vbool i))]) (fun i => []) (fun i => message_isUnit_J1 i = some r) (fun i => rfl) ?_ ?_
  · skip
    refine awp_plain hN rfl ?_
    refine seq_run0 (stp_move (.dat _) rfl) ?_
    refine seq_run0 (stp_wrap _ rfl rfl (.inl ⟨rfl, rfl⟩)) ?_
    refine seq_run0 (stp_move (.dat _) rfl) ?_
    refine seq_run0 (stp_len_str tyU9 rfl) ?_
    refine seq_run0 (stp_lss rfl rfl) ?_
    refine seq_run0 (stp_move (.dat _) rfl) ?_
    refine seq_split (j := 5) rfl rfl (fun h3 => ?_) (fun h3 => ?_) rfl
    · have h4 := un1 h3
      replace H := ift h4 H
      refine seq_g0 rfl rfl h3 (stp_move (.dat _) rfl) ?_
      refine seq_g0 rfl rfl h3 (stp_move (.dat _) rfl) ?_
      refine seq_g0 rfl rfl h3 (stp_wrap _ rfl rfl (.inl ⟨rfl, rfl⟩)) ?_
      obtain ⟨x5, h6, H⟩ := bnd H
      refine seq_g0 rfl rfl h3 (t_byteI tyU9 rfl rfl h6) ?_
      obtain ⟨r7, h8, H⟩ := bnd H
      refine seq_g0 rfl rfl h3 (stp_call (k_message_isHex (x5.toNat : Int) r7 h8) ⟨.inl rfl, trivial⟩) ?_
      refine seq_run0 (stp_pick_t rfl (bTT h4) rfl) ?_
      refine seq_run0 (stp_move (.dat _) rfl) ?_
      refine seq_split (j := 12) rfl rfl (fun h9 => ?_) (fun h9 => ?_) rfl
      · have h10 := un1 h9
        replace H := ift h10 H
        refine seq_g0 rfl rfl h9 (stp_move (.dat _) rfl) ?_
        refine seq_g0 rfl rfl h9 (stp_move (.dat _) rfl) ?_
        refine seq_g0 rfl rfl h9 (stp_wrap _ rfl rfl (.inl ⟨rfl, rfl⟩)) ?_
        obtain ⟨x11, h12, H⟩ := bnd H
        refine seq_g0 rfl rfl h9 (t_byteI tyU9 rfl rfl h12) ?_
        obtain ⟨r13, h14, H⟩ := bnd H
        refine seq_g0 rfl rfl h9 (stp_call (k_message_isHex (x11.toNat : Int) r13 h14) ⟨.inl rfl, trivial⟩) ?_
        refine seq_run0 (stp_pick_t rfl (bTT h10) rfl) ?_
        refine seq_run0 (stp_assign (.dat _) rfl) ?_
        exact ⟨r13, H, ⟨rfl, trivial⟩, trivial⟩
      · have h15 := un2 h9
        replace H := iff_ h15 H
        refine seq_skip rfl rfl h9 ?_
        refine seq_skip rfl rfl h9 ?_
        refine seq_skip rfl rfl h9 ?_
        refine seq_skip rfl rfl h9 ?_
        refine seq_skip rfl rfl h9 ?_
        refine seq_run0 (stp_pick_f rfl (bFF h15) rfl) ?_
        refine seq_run0 (stp_assign (.dat _) rfl) ?_
        exact ⟨false, H, ⟨rfl, trivial⟩, trivial⟩
    · have h16 := un2 h3
      replace H := iff_ h16 H
      refine seq_skip rfl rfl h3 ?_
      refine seq_skip rfl rfl h3 ?_
      refine seq_skip rfl rfl h3 ?_
      refine seq_skip rfl rfl h3 ?_
      refine seq_skip rfl rfl h3 ?_
      refine seq_run0 (stp_pick_f rfl (bFF h16) rfl) ?_
      refine seq_run0 (stp_move (.dat _) rfl) ?_
      refine seq_skip rfl rfl rfl ?_
      refine seq_skip rfl rfl rfl ?_
      refine seq_skip rfl rfl rfl ?_
      refine seq_skip rfl rfl rfl ?_
      refine seq_skip rfl rfl rfl ?_
      refine seq_run0 (stp_pick_f rfl rfl rfl) ?_
      refine seq_run0 (stp_assign (.dat _) rfl) ?_
      exact ⟨false, H, ⟨rfl, trivial⟩, trivial⟩
  · rintro v17 H
    replace H : message_isUnit_J1 v17 = some r := H
    unfold message_isUnit_J1 at H
    refine awp_ret ?_
    cases H
    exact ⟨trivial, .inl rfl, trivial⟩
theorem k_strconv_ParseUint (s1 : Bs) (base2 : Int) (bitSize3 : Int) (r : (Int × Int)) (H : m_strconv_ParseUint s1 base2 bitSize3 = some r) : Fn Tryz.prog 160 [vstr s1, vint base2, vint bitSize3] (resOf [vval (.int .u64 r.1), verr r.2]) := by
  refine ⟨by kernel_rfl, pure_of (us := [vval (.int .u64 r.1), verr r.2]) Tryz.func160 rfl rfl rfl rfl fun X hN => ?_⟩
  unfold m_strconv_ParseUint at H
  refine awp_seq ?_
  refine awp_plain hN rfl ?_
  refine seq_run0 (stp_assign (.dat _) rfl) ?_
  refine seq_run0 (stp_assign (.dat _) rfl) ?_
  refine awp_seq ?_
  refine awp_plain hN rfl ?_
  refine seq_run0 (stp_move (.dat _) rfl) ?_
  refine seq_run0 (stp_move (.dat _) rfl) ?_
  refine seq_run0 (stp_move (.dat _) rfl) ?_
  obtain ⟨r4, h5, H⟩ := bnd H
  refine seq_run0 (stp_call (k_internal_strconv_ParseUint s1 base2 bitSize3 r4 h5) ⟨.inl rfl, .inl rfl, .inl rfl, trivial⟩) ?_
  refine seq_run0 (stp_move (.dat _) rfl) ?_
  refine seq_run0 (stp_ext rfl rfl) ?_
  refine seq_run0 (stp_ext rfl rfl) ?_
  refine seq_run0 (stp_assign (.dat _) rfl) ?_
  refine seq_run0 (stp_assign (.dat _) rfl) ?_
  refine awp_seq ?_
  refine awp_seq ?_
  refine awp_plain hN rfl ?_
  refine seq_run0 (stp_move (.dat _) rfl) ?_
  refine seq_run0 (stp_errneq (n := r4.2) (show Tryz.prog.underlying 112 = some (.interface (Tryz.prog.methodsAt 112)) from by kernel_rfl) rfl) ?_
  refine awp_cond _ rfl (fun h6 => ?_) (fun h6 => ?_)
  · replace H := ift h6 H
    refine awp_seq ?_
    refine awp_plain hN rfl ?_
    refine seq_run0 (stp_move (.dat _) rfl) ?_
    refine seq_run0 (stp_move (.dat _) rfl) ?_
    refine seq_run0 (stp_move (.dat _) rfl) ?_
    refine seq_run0 (stp_move (.dat _) rfl) ?_
    refine seq_run0 (stp_move (.dat _) rfl) ?_
    obtain ⟨r7, h8, H⟩ := bnd H
    refine seq_run0 (stp_call (k_strconv_toError [80, 97, 114, 115, 101, 85, 105, 110, 116] s1 base2 bitSize3 r4.2 r7 h8) ⟨.inl rfl, .inl rfl, .inl rfl, .inl rfl, .inl rfl, trivial⟩) ?_
    refine seq_run0 (stp_assign (.dat _) rfl) ?_
    refine seq_run0 (stp_assign (.dat _) rfl) ?_
    refine awp_ret ?_
    cases H
    exact ⟨trivial, .inl rfl, .inl rfl, trivial⟩
  · replace H := iff_ h6 H
    refine awp_skip ?_
    refine awp_seq ?_
    refine awp_plain hN rfl ?_
    refine seq_run0 (stp_move (.dat _) rfl) ?_
    refine seq_run0 (stp_assign (.dat _) rfl) ?_
    refine seq_run0 (stp_assign (.dat _) rfl) ?_
    refine awp_ret ?_
    cases H
    exact ⟨trivial, .inl rfl, .inl rfl, trivial⟩
theorem k_message_unit (s1 : Bs) (v2 : Int) (r : (Int)) (H : m_message_unit s1 v2 = some r) : Fn Tryz.prog 157 [vstr s1, vint v2] (resOf [vval (.int .u8 r)]) := by
  refine ⟨by kernel_rfl, pure_of (us := [vval (.int .u8 r)]) Tryz.func157 rfl rfl rfl rfl fun X hN => ?_⟩
  unfold m_message_unit at H
  refine awp_seq ?_
  refine awp_plain hN rfl ?_
  refine seq_run0 (stp_assign (.dat _) rfl) ?_
  refine awp_seq ?_
  refine awp_plain hN rfl ?_
  refine seq_run0 (stp_move (.dat _) rfl) ?_
  refine seq_run0 (stp_move (.dat _) rfl) ?_
  refine seq_run0 (stp_wrap _ rfl rfl (.inl ⟨rfl, rfl⟩)) ?_
  refine seq_run0 (stp_move (.dat _) rfl) ?_
  refine seq_run0 (stp_wrap _ rfl rfl (.inl ⟨rfl, rfl⟩)) ?_
  obtain ⟨l3, h4, H⟩ := bnd H
  refine seq_run0 (t_subS tyU9 rfl rfl rfl h4) ?_
  obtain ⟨r5, h6, H⟩ := bnd H
  refine seq_run0 (stp_call (k_strconv_ParseUint l3 16 8 r5 h6) ⟨.inl rfl, .inl rfl, .inl rfl, trivial⟩) ?_
  refine seq_run0 (stp_move (.dat _) rfl) ?_
  refine seq_run0 (stp_ext rfl rfl) ?_
  refine seq_run0 (stp_ext rfl rfl) ?_
  refine seq_run0 (stp_assign (.dat _) rfl) ?_
  refine seq_run0 (stp_assign (.dat _) rfl) ?_
  refine awp_seq ?_
  refine awp_seq ?_
  refine awp_plain hN rfl ?_
  refine seq_run0 (stp_move (.dat _) rfl) ?_
  refine seq_run0 (stp_errneq (n := r5.2) (show Tryz.prog.underlying 112 = some (.interface (Tryz.prog.methodsAt 112)) from by kernel_rfl) rfl) ?_
  refine awp_cond _ rfl (fun h7 => ?_) (fun h7 => ?_)
  · replace H := ift h7 H
    refine awp_seq ?_
    refine awp_plain hN rfl ?_
    refine seq_run0 (stp_assign (.dat _) rfl) ?_
    refine awp_ret ?_
    cases H
    exact ⟨trivial, .inl rfl, trivial⟩
  · replace H := iff_ h7 H
    refine awp_skip ?_
    refine awp_seq ?_
    refine awp_plain hN rfl ?_
    refine seq_run0 (stp_move (.dat _) rfl) ?_
    refine seq_run0 (stp_conv tyU166 tyU5 rfl) ?_
    refine seq_run0 (stp_assign (.dat _) rfl) ?_
    refine awp_ret ?_
    cases H
    exact ⟨trivial, .inl rfl, trivial⟩
theorem k_message_isFree (c1 : Int) (r : (Bool)) (H : m_message_isFree c1 = some r) : Fn Tryz.prog 158 [vval (.int .u8 c1)] (resOf [vbool r]) := by
  refine ⟨by kernel_rfl, pure_of (us := [vbool r]) Tryz.func158 rfl rfl rfl rfl fun X hN => ?_⟩
  unfold m_message_isFree at H
  refine awp_seq ?_
  refine awp_plain hN rfl ?_
  refine seq_run0 (stp_assign (.dat _) rfl) ?_
  refine awp_joinE (ι := Bool) (fun i => [(2, .dat (vbool i))]) (fun i => []) (fun i => message_isFree_J1 i = some r) (fun i => rfl) ?_ ?_
  · skip
    refine awp_plain hN rfl ?_
    refine seq_run0 (stp_move (.dat _) rfl) ?_
    obtain ⟨r2, h3, H⟩ := bnd H
    refine seq_run0 (stp_call (k_message_isLetter c1 r2 h3) ⟨.inl rfl, trivial⟩) ?_
    refine seq_run0 (stp_move (.dat _) rfl) ?_
    refine seq_split (j := 2) rfl rfl (fun h4 => ?_) (fun h4 => ?_) rfl
    · have h5 := un3 h4
      replace H := iff_ h5 H
      refine seq_g0 rfl rfl h4 (stp_move (.dat _) rfl) ?_
      obtain ⟨r6, h7, H⟩ := bnd H
      refine seq_g0 rfl rfl h4 (stp_call (k_message_isDigit c1 r6 h7) ⟨.inl rfl, trivial⟩) ?_
      refine seq_run0 (stp_pick_f rfl (bFF h5) rfl) ?_
      refine seq_run0 (stp_move (.dat _) rfl) ?_
      refine seq_split (j := 6) rfl rfl (fun h8 => ?_) (fun h8 => ?_) rfl
      · have h9 := un3 h8
        replace H := iff_ h9 H
        refine seq_g0 rfl rfl h8 (stp_move (.dat _) rfl) ?_
        obtain ⟨r10, h11, H⟩ := bnd H
        refine seq_g0 rfl rfl h8 (stp_call (k_strings_IndexByte [45, 46, 95, 126] c1 r10 h11) ⟨.inl rfl, .inl rfl, trivial⟩) ?_
        refine seq_g0 rfl rfl h8 (stp_geq rfl rfl) ?_
        refine seq_run0 (stp_pick_f rfl (bFF h9) rfl) ?_
        refine seq_run0 (stp_assign (.dat _) rfl) ?_
        exact ⟨decide (0 ≤ r10), H, ⟨rfl, trivial⟩, trivial⟩
      · have h12 := un4 h8
        replace H := ift h12 H
        refine seq_skip rfl rfl h8 ?_
        refine seq_skip rfl rfl h8 ?_
        refine seq_skip rfl rfl h8 ?_
        refine seq_run0 (stp_pick_t rfl (bTT h12) rfl) ?_
        refine seq_run0 (stp_assign (.dat _) rfl) ?_
        exact ⟨true, H, ⟨rfl, trivial⟩, trivial⟩
    · have h13 := un4 h4
      replace H := ift h13 H
      refine seq_skip rfl rfl h4 ?_
      refine seq_skip rfl rfl h4 ?_
      refine seq_run0 (stp_pick_t rfl (bTT h13) rfl) ?_
      refine seq_run0 (stp_move (.dat _) rfl) ?_
      refine seq_skip rfl rfl rfl ?_
      refine seq_skip rfl rfl rfl ?_
      refine seq_skip rfl rfl rfl ?_
      refine seq_run0 (stp_pick_t rfl rfl rfl) ?_
      refine seq_run0 (stp_assign (.dat _) rfl) ?_
      exact ⟨true, H, ⟨rfl, trivial⟩, trivial⟩
  · rintro v14 H
    replace H : message_isFree_J1 v14 = some r := H
    unfold message_isFree_J1 at H
    refine awp_ret ?_
    cases H
    exact ⟨trivial, .inl rfl, trivial⟩
theorem k_message_percent (c1 : Int) (r : (Bs)) (H : m_message_percent c1 = some r) : Fn Tryz.prog 159 [vval (.int .u8 c1)] (resOf [vstr r]) := by
  refine ⟨by kernel_rfl, pure_of (us := [vstr r]) Tryz.func159 rfl rfl rfl rfl fun X hN => ?_⟩
  unfold m_message_percent at H
  refine awp_seq ?_
  refine awp_plain hN rfl ?_
  refine seq_run0 (stp_assign (.dat _) rfl) ?_
  refine awp_seq ?_
  refine awp_draw mixed hN rfl rfl ?_
  refine seq_run0 (stp_move (.dat _) rfl) ?_
  refine seq_run0 (stp_dat (stp_shr rfl rfl (by decide)) rfl) ?_
  obtain ⟨x2, h3, H⟩ := bnd H
  refine seq_run0 (t_byteK tyU9 rfl rfl h3) ?_
  refine seq_run0 (stp_move (.dat _) rfl) ?_
  refine seq_run0 (stp_dat (stp_and rfl rfl) rfl) ?_
  obtain ⟨x4, h5, H⟩ := bnd H
  refine seq_run0 (t_byteK tyU9 rfl rfl h5) ?_
  refine seq_run0 (stp_dat (u' := vlst (List.map C_uint8 [37, (x2.toNat : Int), (x4.toNat : Int)])) (stp_lit [[_], [_], [_]] tyL46 ⟨rfl, .inl ⟨_, rfl, rfl, rfl⟩, rfl, rfl, .inl ⟨_, rfl, rfl, rfl⟩, rfl, rfl, .inl ⟨_, rfl, rfl, rfl⟩, rfl, trivial⟩ rfl rfl) rfl) ?_
  refine seq_run0 (stp_convB (C := C_uint8) tyU46 tyU5 tyU9 (fun _ => rfl) rfl) ?_
  refine seq_run0 (stp_assign (.dat _) rfl) ?_
  refine ⟨rfl, ?_⟩
  refine awp_ret ?_
  cases H
  exact ⟨trivial, .inl rfl, trivial⟩
theorem kb_strings_Builder_WriteString (l1 : (List Int)) (s2 : Bs) (r : (Int × Int × (List Int))) (H : m_strings_Builder_WriteString l1 s2 = some r) : FnG Tryz.prog 96 [.ptr 0 0, .dat (vstr s2)] [(0, .box (some 0) 110 [.nptr 0, .row 1 l1.length]), (1, .row 5 1 (List.map C_uint8 l1))] (.dat (resOf [vint r.1, verr r.2.1])) [(0, .box (some 0) 110 [.nptr 0, .row 900 r.2.2.length]), (900, .row 5 1 (List.map C_uint8 r.2.2))] := by
  refine fnG_of (by kernel_rfl) Tryz.func96 rfl rfl rfl rfl fun X A hN => ?_
  refine awp_cv ?_
  unfold m_strings_Builder_WriteString at H
  refine awp_seq ?_
  refine awp_plain hN rfl ?_
  refine seq_run0 (stp_assign (.dat _) rfl) ?_
  refine seq_run0 (stp_assign (.dat _) rfl) ?_
  refine awp_seq ?_
  refine awp_plain hN rfl ?_
  refine seq_run0 (stp_move (.ptr _ _) rfl) ?_
  refine seq_run2 (stp_cc cc_prog rfl) rfl ?_
  refine awp_seq ?_
  refine awp_plain hN rfl ?_
  refine seq_run0 (stp_move (.ptr _ _) rfl) ?_
  refine seq_run0 (stp_move (.ptr _ _) rfl) ?_
  refine seq_run0 (stp_nilP rfl) ?_
  refine seq_run0 (stp_fldP tyF110_1 rfl) ?_
  refine seq_run1 (stp_load1 tyS46 rfl rfl) rfl ?_
  refine seq_run0 (stp_move (.dat _) rfl) ?_
  obtain ⟨h3, H⟩ := gif H
  refine seq_run2 (t_appS (C := C_uint8) (fun _ => rfl) (show tyB8 Tryz.prog 46 9 5 from ⟨by kernel_rfl, by kernel_rfl, by kernel_rfl⟩) rfl rfl rfl h3) rfl ?_
  refine seq_run0 (stp_nilP rfl) ?_
  refine seq_run0 (stp_fldP tyF110_1 rfl) ?_
  refine seq_run4 (stp_storeS tyS46 rfl rfl (by rw [List.length_map]) rfl) rfl rfl ?_
  refine awp_seq ?_
  refine awp_plain hN rfl ?_
  refine seq_run0 (stp_move (.dat _) rfl) ?_
  refine seq_run0 (stp_len_str tyU9 rfl) ?_
  refine seq_run0 (stp_assign (.dat _) rfl) ?_
  refine seq_run0 (stp_assign (.dat _) rfl) ?_
  refine awp_ret ?_
  cases H
  show Cv _ _ _ _
  refine cv_ren (rn [(1, 900)]) [(4, .dat (vint (s2.length : Int))), (5, .dat (verr 0))] [(0, .box (some (A.bl 0)) 110 [.nptr 0, .row 1 ((l1 ++ numsB s2).length)]), (1, .row 5 1 (List.map C_uint8 (l1 ++ numsB s2)))] ⟨rfl, rfl, trivial⟩ ⟨rfl, rfl, trivial⟩ rfl rfl ?_
  exact ⟨trivial, [(4, .dat (vint (s2.length : Int))), (5, .dat (verr 0))], ⟨rfl, rfl, trivial⟩, ⟨rfl, rfl, trivial⟩, rfl, .inl ⟨[vint (s2.length : Int), verr 0], ⟨rfl, rfl, trivial⟩, rfl⟩⟩
theorem k_message_normalUnits (s1 : Bs) (r : (Bs × Bool)) (H : m_message_normalUnits s1 = some r) : Fn Tryz.prog 88 [vstr s1] (resOf [vstr r.1, vbool r.2]) := by
  refine ⟨by kernel_rfl, pure_of (us := [vstr r.1, vbool r.2]) Tryz.func88 rfl rfl rfl rfl fun X hN => ?_⟩
  unfold m_message_normalUnits at H
  refine awp_seq ?_
  refine awp_plain hN rfl ?_
  refine seq_run0 (stp_assign (.dat _) rfl) ?_
  refine seq_run0 (stp_assign (.dat _) rfl) ?_
  refine awp_seq ?_
  refine awp_plain hN rfl ?_
  refine seq_run2 (stp_alloc 1 tyZ110 rfl) rfl ?_
  refine awp_wkB 1 0 (.nptr 1) rfl rfl nptr_nil ?_
  refine awp_nilrowB 1 1 2 5 1 rfl rfl rfl rfl ?_
  refine awp_joinE (ι := (List Int)) (fun i => [(4, .ptr 1 0)]) (fun i => [(1, .box none 110 [.nptr 1, .row 2 i.length]), (2, .row 5 1 (List.map C_uint8 i))]) (fun i => message_normalUnits_J1 i = some r) (fun i => rfl) ?_ ?_
  · refine awp_cv ?_
    refine awp_seq ?_
    refine awp_plain hN rfl ?_
    refine seq_run0 (stp_assign (.dat _) rfl) ?_
    refine awp_block ?_
    refine awp_iter (fun (s : Int × (List Int)) => [(0, .dat (vstr s1)), (4, .ptr 1 0), (5, .dat (vint s.1))]) (fun (s : Int × (List Int)) => [(1, .box none 110 [.nptr 1, .row 2 s.2.length]), (2, .row 5 1 (List.map C_uint8 s.2))]) (0, ([] : List Int)) H ⟨rfl, rfl, rfl, trivial⟩ ⟨rfl, rfl, trivial⟩ (fun _ => rfl) ?_
    rintro ⟨i2, l3⟩ q4 H hq4
    replace H : message_normalUnits_L2 s1 i2 l3 = some q4 := H
    unfold message_normalUnits_L2 at H
    refine awp_cv ?_
    refine awp_seq ?_
    refine awp_seq ?_
    refine awp_plain hN rfl ?_
    refine seq_run0 (stp_move (.dat _) rfl) ?_
    refine seq_run0 (stp_move (.dat _) rfl) ?_
    refine seq_run0 (stp_len_str tyU9 rfl) ?_
    refine seq_run0 (stp_lss rfl rfl) ?_
    refine awp_cond _ rfl (fun h5 => ?_) (fun h5 => ?_)
    · replace H := ift h5 H
      refine awp_skip ?_
      refine awp_joinE (ι := Int × (List Int)) (fun i => [(0, .dat (vstr s1)), (4, .ptr 1 0), (5, .dat (vint i.1))]) (fun i => [(1, .box none 110 [.nptr 1, .row 7 i.2.length]), (7, .row 5 1 (List.map C_uint8 i.2))]) (fun i => message_normalUnits_J3 i.1 i.2 = some q4) (fun i => rfl) ?_ ?_
      · refine awp_cv ?_
        refine awp_block ?_
        refine awp_seq ?_
        refine awp_seq ?_
        refine awp_plain hN rfl ?_
        refine seq_run0 (stp_move (.dat _) rfl) ?_
        refine seq_run0 (stp_move (.dat _) rfl) ?_
        obtain ⟨x6, h7, H⟩ := bnd H
        refine seq_run0 (t_byteI tyU9 rfl rfl h7) ?_
        refine seq_run0 (stp_neq rfl rfl) ?_
        refine awp_cond _ rfl (fun h8 => ?_) (fun h8 => ?_)
        · replace H := ift h8 H
          refine awp_seq ?_
          refine awp_plain hN rfl ?_
          refine seq_run0 (stp_move (.dat _) rfl) ?_
          refine seq_run0 (stp_move (.dat _) rfl) ?_
          refine seq_run0 (t_byteI tyU9 rfl rfl h7) ?_
          obtain ⟨r9, h10, H⟩ := bnd H
          refine seq_callG (rn [(0, 1), (1, 2), (900, 3)]) [(0, _, _, some _), (1, _, _, none)] [(900, _)] (kb_strings_Builder_WriteByte l3 (x6.toNat : Int) r9 h10) ⟨rfl, rfl, rfl, trivial⟩ ⟨.inl (.inl rfl), .inl (.inl rfl), trivial⟩ ⟨⟨⟨rfl, rfl⟩, trivial⟩, ⟨⟨rfl, rfl, rfl⟩, trivial⟩, trivial⟩ rfl ?_
          refine awp_exit ?_
          show Cv _ _ _ _
          refine cv_ren (rn [(3, 7)]) [(0, .dat (vstr s1)), (4, .ptr 1 0), (5, .dat (vint i2))] [(1, .box none 110 [.nptr 1, .row 3 r9.2.length]), (3, .row 5 1 (List.map C_uint8 r9.2))] ⟨rfl, rfl, rfl, trivial⟩ ⟨rfl, rfl, trivial⟩ rfl rfl ?_
          exact ⟨(i2, r9.2), H, ⟨rfl, rfl, rfl, trivial⟩, ⟨rfl, rfl, trivial⟩⟩
        · replace H := iff_ h8 H
          refine awp_skip ?_
          refine awp_seq ?_
          refine awp_seq ?_
          refine awp_plain hN rfl ?_
          refine seq_run0 (stp_move (.dat _) rfl) ?_
          refine seq_run0 (stp_move (.dat _) rfl) ?_
          obtain ⟨r11, h12, H⟩ := bnd H
          refine seq_run0 (stp_call (k_message_isUnit s1 i2 r11 h12) ⟨.inl rfl, .inl rfl, trivial⟩) ?_
          refine seq_run0 (stp_not rfl) ?_
          refine awp_cond _ rfl (fun h13 => ?_) (fun h13 => ?_)
          · replace H := ift h13 H
            refine awp_seq ?_
            refine awp_plain hN rfl ?_
            refine seq_run0 (stp_assign (.dat _) rfl) ?_
            refine seq_run0 (stp_assign (.dat _) rfl) ?_
            refine awp_ret ?_
            replace H := retl H hq4
            cases H
            show Cv _ _ _ _
            refine cv_in ?_
            show Cv _ _ _ _
            refine cv_in ?_
            show Cv _ _ _ _
            refine cv_in ?_
            exact ⟨trivial, .inl rfl, .inl rfl, trivial⟩
          · replace H := iff_ h13 H
            refine awp_skip ?_
            refine awp_joinE (ι := (List Int)) (fun i => [(0, .dat (vstr s1)), (4, .ptr 1 0), (5, .dat (vint i2))]) (fun i => [(1, .box none 110 [.nptr 1, .row 6 i.length]), (6, .row 5 1 (List.map C_uint8 i))]) (fun i => message_normalUnits_J4 i2 i = some q4) (fun i => rfl) ?_ ?_
            · refine awp_cv ?_
              refine awp_seq ?_
              refine awp_plain hN rfl ?_
              refine seq_run0 (stp_move (.dat _) rfl) ?_
              refine seq_run0 (stp_move (.dat _) rfl) ?_
              obtain ⟨r14, h15, H⟩ := bnd H
              refine seq_run0 (stp_call (k_message_unit s1 i2 r14 h15) ⟨.inl rfl, .inl rfl, trivial⟩) ?_
              refine seq_run0 (stp_assign (.dat _) rfl) ?_
              refine awp_seq ?_
              refine awp_plain hN rfl ?_
              refine seq_run0 (stp_move (.dat _) rfl) ?_
              obtain ⟨r16, h17, H⟩ := bnd H
              refine seq_run0 (stp_call (k_message_isFree r14 r16 h17) ⟨.inl rfl, trivial⟩) ?_
              refine awp_cond _ rfl (fun h18 => ?_) (fun h18 => ?_)
              · replace H := ift h18 H
                refine awp_plain hN rfl ?_
                refine seq_run0 (stp_move (.dat _) rfl) ?_
                obtain ⟨r19, h20, H⟩ := bnd H
                refine seq_callG (rn [(0, 1), (1, 2), (900, 4)]) [(0, _, _, some _), (1, _, _, none)] [(900, _)] (kb_strings_Builder_WriteByte l3 r14 r19 h20) ⟨rfl, rfl, rfl, trivial⟩ ⟨.inl (.inl rfl), .inl (.inl rfl), trivial⟩ ⟨⟨⟨rfl, rfl⟩, trivial⟩, ⟨⟨rfl, rfl, rfl⟩, trivial⟩, trivial⟩ rfl ?_
                refine seq_end ?_
                show Cv _ _ _ _
                refine cv_ren (rn [(4, 6)]) [(0, .dat (vstr s1)), (4, .ptr 1 0), (5, .dat (vint i2))] [(1, .box none 110 [.nptr 1, .row 4 r19.2.length]), (4, .row 5 1 (List.map C_uint8 r19.2))] ⟨rfl, rfl, rfl, trivial⟩ ⟨rfl, rfl, trivial⟩ rfl rfl ?_
                exact ⟨r19.2, H, ⟨rfl, rfl, rfl, trivial⟩, ⟨rfl, rfl, trivial⟩⟩
              · replace H := iff_ h18 H
                refine awp_plain hN rfl ?_
                refine seq_run0 (stp_move (.dat _) rfl) ?_
                obtain ⟨r21, h22, H⟩ := bnd H
                refine seq_run0 (stp_call (k_message_percent r14 r21 h22) ⟨.inl rfl, trivial⟩) ?_
                obtain ⟨r23, h24, H⟩ := bnd H
                refine seq_callG (rn [(0, 1), (1, 2), (900, 5)]) [(0, _, _, some _), (1, _, _, none)] [(900, _)] (kb_strings_Builder_WriteString l3 r21 r23 h24) ⟨rfl, rfl, rfl, trivial⟩ ⟨.inl (.inl rfl), .inl (.inl rfl), trivial⟩ ⟨⟨⟨rfl, rfl⟩, trivial⟩, ⟨⟨rfl, rfl, rfl⟩, trivial⟩, trivial⟩ rfl ?_
                refine seq_end ?_
                show Cv _ _ _ _
                refine cv_ren (rn [(5, 6)]) [(0, .dat (vstr s1)), (4, .ptr 1 0), (5, .dat (vint i2))] [(1, .box none 110 [.nptr 1, .row 5 r23.2.2.length]), (5, .row 5 1 (List.map C_uint8 r23.2.2))] ⟨rfl, rfl, rfl, trivial⟩ ⟨rfl, rfl, trivial⟩ rfl rfl ?_
                exact ⟨r23.2.2, H, ⟨rfl, rfl, rfl, trivial⟩, ⟨rfl, rfl, trivial⟩⟩
            · rintro l25 H
              replace H : message_normalUnits_J4 i2 l25 = some q4 := H
              unfold message_normalUnits_J4 at H
              refine awp_plain hN rfl ?_
              refine seq_run0 (stp_move (.dat _) rfl) ?_
              refine seq_run0 (stp_wrap _ rfl rfl (.inl ⟨rfl, rfl⟩)) ?_
              refine seq_run0 (stp_assign (.dat _) rfl) ?_
              refine seq_end ?_
              show Cv _ _ _ _
              refine cv_ren (rn [(6, 7)]) [(0, .dat (vstr s1)), (4, .ptr 1 0), (5, .dat (vint (wr (i2 + 2))))] [(1, .box none 110 [.nptr 1, .row 6 l25.length]), (6, .row 5 1 (List.map C_uint8 l25))] ⟨rfl, rfl, rfl, trivial⟩ ⟨rfl, rfl, trivial⟩ rfl rfl ?_
              exact ⟨(wr (i2 + 2), l25), H, ⟨rfl, rfl, rfl, trivial⟩, ⟨rfl, rfl, trivial⟩⟩
      · rintro ⟨i26, l27⟩ H
        replace H : message_normalUnits_J3 i26 l27 = some q4 := H
        unfold message_normalUnits_J3 at H
        refine awp_plain hN rfl ?_
        refine seq_run0 (stp_move (.dat _) rfl) ?_
        refine seq_run0 (stp_wrap _ rfl rfl (.inl ⟨rfl, rfl⟩)) ?_
        refine seq_run0 (stp_assign (.dat _) rfl) ?_
        refine seq_end ?_
        show Cv _ _ _ _
        refine cv_ren (rn [(7, 2)]) [(0, .dat (vstr s1)), (4, .ptr 1 0), (5, .dat (vint (wr (i26 + 1))))] [(1, .box none 110 [.nptr 1, .row 7 l27.length]), (7, .row 5 1 (List.map C_uint8 l27))] ⟨rfl, rfl, rfl, trivial⟩ ⟨rfl, rfl, trivial⟩ rfl rfl ?_
        exact ⟨_, backl H, ⟨rfl, rfl, rfl, trivial⟩, ⟨rfl, rfl, trivial⟩⟩
    · replace H := iff_ h5 H
      refine awp_exit ?_
      replace H := outl H hq4
      show Cv _ _ _ _
      refine cv_in ?_
      show Cv _ _ _ _
      refine cv_in ?_
      exact ⟨l3, H, ⟨rfl, trivial⟩, ⟨rfl, rfl, trivial⟩⟩
  · rintro l28 H
    replace H : message_normalUnits_J1 l28 = some r := H
    unfold message_normalUnits_J1 at H
    refine awp_seq ?_
    refine awp_plain hN rfl ?_
    obtain ⟨h29, H⟩ := gif H
    refine seq_callG (rn [(0, 1), (1, 2)]) [(0, _, _, none), (1, _, _, none)] [] (kbs_String h29 (C := C_uint8) (fun _ => rfl)) ⟨rfl, rfl, trivial⟩ ⟨.inl (.inl rfl), trivial⟩ ⟨⟨⟨rfl, rfl⟩, trivial⟩, ⟨⟨rfl, rfl, rfl⟩, trivial⟩, trivial⟩ rfl ?_
    refine seq_run0 (stp_assign (.dat _) rfl) ?_
    refine seq_run0 (stp_assign (.dat _) rfl) ?_
    refine awp_ret ?_
    cases H
    exact ⟨trivial, .inl rfl, .inl rfl, trivial⟩
end Go.Proofs.YtbejggfkfaibeaaGreatDoor
