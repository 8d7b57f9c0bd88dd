/- Walks along the models. Printed by a program. -/
import Derived.Test.YtmcegaabopcmfaaTw1
namespace Go.Proofs.Ytmcegaabopcmfaa
open Go.RowKit
set_option linter.unusedVariables false
set_option maxRecDepth 20000
theorem k_upstream_Up (l1 : (List S_api_Instance)) (h2 : S_api_Health) (p3 : (List S_api_Probe)) (v4 : Int) (r : ((List Bs) × Int)) (H : m_upstream_Up l1 h2 p3 v4 = some r) : Fn Try.prog 37 [vlst (List.map C_api_Instance l1), vagg (C_api_Health h2), vlst (List.map C_api_Probe p3), vint v4] (resOf [vlst (List.map C_string r.1), vint r.2]) := by
  refine ⟨by kernel_rfl, pure_of (us := [vlst (List.map C_string r.1), vint r.2]) Try.func37 rfl rfl rfl rfl fun X hN => ?_⟩
  unfold m_upstream_Up at H
  refine awp_seq ?_
  refine awp_plain hN rfl ?_
  refine seq_run2 (stp_boxA 1 rfl) rfl ?_
  refine seq_run0 (stp_assign (.dat _) rfl) ?_
  refine seq_run0 (stp_assign (.dat _) rfl) ?_
  refine awp_seq ?_
  refine awp_seq ?_
  refine awp_plain hN rfl ?_
  refine seq_run0 (stp_move (.dat _) rfl) ?_
  refine seq_run1 (stp_loadA tyS66 rfl rfl rfl) rfl ?_
  refine seq_run0 (stp_move (.dat _) rfl) ?_
  obtain ⟨r5, h6, H⟩ := bnd H
  refine seq_run0 (stp_call (k_upstream_healthFault l1 h2 p3 r5 h6) ⟨.inl rfl, .inl rfl, .inl rfl, trivial⟩) ?_
  refine seq_run0 (stp_assign (.dat _) rfl) ?_
  refine awp_seq ?_
  refine awp_plain hN rfl ?_
  refine seq_run0 (stp_move (.dat _) rfl) ?_
  refine seq_run0 (stp_neq rfl rfl) ?_
  refine awp_cond _ rfl (fun h7 => ?_) (fun h7 => ?_)
  · replace H := ift h7 H
    refine awp_seq ?_
    refine awp_plain hN rfl ?_
    refine seq_run0 (stp_move (.dat _) rfl) ?_
    refine seq_run0 (stp_assign (.dat _) rfl) ?_
    refine seq_run0 (stp_assign (.dat _) rfl) ?_
    refine awp_ret ?_
    cases H
    exact ⟨trivial, .inr ⟨rfl, rfl⟩, .inl rfl, trivial⟩
  · replace H := iff_ h7 H
    refine awp_skip ?_
    refine awp_seq ?_
    refine awp_seq ?_
    refine awp_plain hN rfl ?_
    refine seq_run0 (stp_move (.dat _) rfl) ?_
    obtain ⟨r8, h9, H⟩ := bnd H
    refine seq_run0 (stp_call (k_kit_IsMoment v4 r8 h9) ⟨.inl rfl, trivial⟩) ?_
    refine seq_run0 (stp_not rfl) ?_
    refine awp_cond _ rfl (fun h10 => ?_) (fun h10 => ?_)
    · replace H := ift h10 H
      refine awp_seq ?_
      refine awp_plain hN rfl ?_
      refine seq_run0 (stp_assign (.dat _) rfl) ?_
      refine seq_run0 (stp_assign (.dat _) rfl) ?_
      refine awp_ret ?_
      cases H
      exact ⟨trivial, .inr ⟨rfl, rfl⟩, .inl rfl, trivial⟩
    · replace H := iff_ h10 H
      refine awp_skip ?_
      refine awp_seq ?_
      refine awp_plain hN rfl ?_
      refine seq_run0 (stp_move (.dat _) rfl) ?_
      refine seq_run1 (stp_loadA tyS66 rfl rfl rfl) rfl ?_
      refine seq_run0 (stp_move (.dat _) rfl) ?_
      refine seq_run0 (stp_move (.dat _) rfl) ?_
      obtain ⟨r11, h12, H⟩ := bnd H
      refine seq_run0 (stp_call (k_upstream_turns l1 h2 p3 v4 r11 h12) ⟨.inl rfl, .inl rfl, .inl rfl, .inl rfl, trivial⟩) ?_
      refine seq_run0 (stp_move (.dat _) rfl) ?_
      refine seq_run0 (stp_ext rfl rfl) ?_
      refine seq_run0 (stp_ext rfl rfl) ?_
      refine seq_run0 (stp_assign (.dat _) rfl) ?_
      refine seq_run0 (stp_assign (.dat _) rfl) ?_
      refine awp_seq ?_
      refine awp_plain hN rfl ?_
      refine seq_run0 (stp_assign (.dat _) rfl) ?_
      refine awp_seq ?_
      refine awp_seq ?_
      refine awp_plain hN rfl ?_
      refine seq_run0 (stp_move (.dat _) rfl) ?_
      refine seq_run0 (t_len tyU48 rfl) ?_
      refine seq_run0 (stp_move (.dat _) rfl) ?_
      refine awp_block ?_
      refine awp_nilrow 13 2 9 1 rfl rfl rfl ?_
      obtain ⟨h16, H⟩ := gif H
      refine awp_forL (fun (k14 : Nat) (s : (List Bs)) => [(12, .dat (vlst (List.map C_upstream_health r11.2))), (13, .row 2 s.length), (34, .dat (vlst (List.map C_api_Instance l1))), (35, .dat (vint (l1.length : Int))), (36, .dat (vint (k14 : Int)))]) (fun (k14 : Nat) (s : (List Bs)) => [(2, .row 9 1 (List.map C_string s))]) [] H ⟨rfl, congrArg (Slot.row 2) (by simp), rfl, rfl, rfl, trivial⟩ ⟨rfl, trivial⟩ (fun _ _ => rfl) ?_ ?_
      · rintro l13 H
        replace H : upstream_Up_E1 l13 = some r := H
        unfold upstream_Up_E1 at H
        refine awp_seq ?_
        refine awp_plain hN rfl ?_
        refine seq_run0 (stp_lss rfl rfl) ?_
        refine awp_seq ?_
        refine awp_cond _ rfl (fun h => (lt_t h).elim) (fun h => ?_)
        refine awp_exit ?_
        refine awp_seq ?_
        refine awp_plain hN rfl ?_
        refine seq_run0 (stp_move (.row _ _) rfl) ?_
        refine seq_run0 (stp_assign (.row _ _) rfl) ?_
        refine seq_run0 (stp_assign (.dat _) rfl) ?_
        refine awp_ret ?_
        cases H
        exact ⟨trivial, t_slotv rfl rfl, .inl rfl, trivial⟩
      · rintro k14 x17 l13 q15 h18 h19 H hq15
        replace H : upstream_Up_L1 r11 k14 x17 l13 = some q15 := H
        unfold upstream_Up_L1 at H
        refine awp_seq ?_
        refine awp_plain hN rfl ?_
        refine seq_run0 (stp_lss rfl rfl) ?_
        refine awp_seq ?_
        refine awp_cond _ rfl (fun h => ?_) (fun h => (lt_f h18 h).elim)
        refine awp_skip ?_
        refine awp_joinE (ι := (List Bs)) (fun i => [(12, .dat (vlst (List.map C_upstream_health r11.2))), (13, .row 2 i.length), (34, .dat (vlst (List.map C_api_Instance l1))), (35, .dat (vint (l1.length : Int))), (36, .dat (vint (k14 : Int)))]) (fun i => [(2, .row 9 1 (List.map C_string i))]) (fun i => upstream_Up_J2 i = some q15) (fun i => rfl) ?_ ?_
        · skip
          refine awp_block ?_
          refine awp_seq ?_
          refine awp_plain hN rfl ?_
          refine seq_run0 (stp_move (.dat _) rfl) ?_
          refine seq_run0 (t_idx tyE48 (fun _ => rfl) rfl rfl h19) ?_
          refine seq_run0 (stp_loadEA tyS114 rfl (map_at h19) rfl) ?_
          refine seq_run2 (stp_alloc 3 tyZ114 rfl) rfl ?_
          refine seq_run0 (stp_assign (.dat _) rfl) ?_
          refine seq_run2 (stp_storeW tyS114 rfl rfl rfl rfl) rfl ?_
          refine awp_seq ?_
          refine awp_plain hN rfl ?_
          refine seq_run0 (stp_move (.dat _) rfl) ?_
          refine seq_run0 (stp_move (.dat _) rfl) ?_
          obtain ⟨x20, h21, H⟩ := bnd H
          refine seq_run0 (t_idx tyE138 (fun _ => rfl) rfl rfl h21) ?_
          refine seq_run0 (stp_fldE tyF142_0 rfl) ?_
          refine seq_run0 (stp_loadE1 tyS4 rfl (map_at h21) rfl) ?_
          refine seq_run0 (stp_not rfl) ?_
          refine awp_cond _ rfl (fun h22 => ?_) (fun h22 => ?_)
          · replace H := ift h22 H
            refine awp_plain hN rfl ?_
            refine seq_run0 (stp_move (.row _ _) rfl) ?_
            refine seq_run0 (stp_fldP tyF114_0 rfl) ?_
            refine seq_run1 (stp_load1 tyS9 rfl rfl) rfl ?_
            refine seq_run0 (stp_dat (u' := vlst (List.map C_string [x17.Key])) (stp_lit [[_]] tyL73 ⟨rfl, .inl ⟨_, rfl, rfl, rfl⟩, rfl, trivial⟩ rfl rfl) rfl) ?_
            obtain ⟨h23, H⟩ := gif H
            refine seq_run2 (t_app tyL73 (fun _ => rfl) rfl rfl rfl ⟨by simp, by simpa using h23⟩ rfl) rfl ?_
            refine seq_run0 (stp_assign (.row _ _) rfl) ?_
            exact ⟨(l13 ++ [x17.Key]), H, ⟨rfl, rfl, rfl, rfl, rfl, trivial⟩, ⟨rfl, trivial⟩⟩
          · replace H := iff_ h22 H
            refine awp_skip ?_
            exact ⟨l13, H, ⟨rfl, rfl, rfl, rfl, rfl, trivial⟩, ⟨rfl, trivial⟩⟩
        · rintro out24 H
          replace H : upstream_Up_J2 out24 = some q15 := H
          unfold upstream_Up_J2 at H
          refine awp_plain hN rfl ?_
          refine seq_run0 (stp_add rfl rfl (by omega)) ?_
          refine seq_run0 (stp_move (.dat _) rfl) ?_
          exact ⟨_, backl H, ⟨rfl, rfl, rfl, rfl, rfl, trivial⟩, ⟨rfl, trivial⟩⟩
theorem k_gateref2_in (n1 : Int) (low2 : Int) (high3 : Int) (r : (Bool)) (H : m_gateref2_in n1 low2 high3 = some r) : Fn Try.prog 74 [vint n1, vint low2, vint high3] (resOf [vbool r]) := by
  refine ⟨by kernel_rfl, pure_of (us := [vbool r]) Try.func74 rfl rfl rfl rfl fun X hN => ?_⟩
  unfold m_gateref2_in at H
  refine awp_seq ?_
  refine awp_plain hN rfl ?_
  refine seq_run0 (stp_assign (.dat _) rfl) ?_
  refine awp_seq ?_
  refine awp_plain hN rfl ?_
  refine seq_run0 (stp_move (.dat _) rfl) ?_
  refine seq_run0 (stp_move (.dat _) rfl) ?_
  refine seq_run0 (stp_leq rfl rfl) ?_
  refine seq_run0 (stp_move (.dat _) rfl) ?_
  refine seq_aT rfl rfl (fun hc => stp_move (.dat _) rfl) ?_
  refine seq_aT rfl rfl (fun hc => stp_move (.dat _) rfl) ?_
  refine seq_aT rfl rfl (fun hc => stp_leq (cnd (c := (decide (low2 ≤ n1))) hc) (cnd (c := (decide (low2 ≤ n1))) hc)) ?_
  refine seq_run0 (stp_pick_and rfl (fun hb => (cnd (c := (decide (low2 ≤ n1))) hb)) rfl) ?_
  refine seq_run0 (stp_assign (.dat _) rfl) ?_
  refine awp_ret ?_
  cases H
  exact ⟨trivial, .inl rfl, trivial⟩
theorem k_gateref2_only (s1 : Bs) (some2 : Bs) (r : (Bool)) (H : m_gateref2_only s1 some2 = some r) : Fn Try.prog 120 [vstr s1, vstr some2] (resOf [vbool r]) := by
  refine ⟨by kernel_rfl, pure_of (us := [vbool r]) Try.func120 rfl rfl rfl rfl fun X hN => ?_⟩
  unfold m_gateref2_only at H
  refine awp_seq ?_
  refine awp_plain hN rfl ?_
  refine seq_run0 (stp_assign (.dat _) rfl) ?_
  refine awp_seq ?_
  refine awp_seq ?_
  refine awp_plain hN rfl ?_
  refine seq_run0 (stp_move (.dat _) rfl) ?_
  refine seq_run0 (stp_len_str tyU9 rfl) ?_
  refine seq_run0 (stp_move (.dat _) rfl) ?_
  refine awp_block ?_
  obtain ⟨h5, H⟩ := gif H
  refine awp_forL (fun (k3 : Nat) (s : Unit) => [(0, .dat (vstr s1)), (1, .dat (vstr some2)), (7, .dat (vint (s1.length : Int))), (8, .dat (vint (k3 : Int)))]) (fun (k3 : Nat) (s : Unit) => []) () H ⟨rfl, rfl, rfl, rfl, trivial⟩ trivial (fun _ _ => rfl) ?_ ?_
  · rintro ⟨⟩ H
    replace H : gateref2_only_E1 = some r := H
    unfold gateref2_only_E1 at H
    refine awp_seq ?_
    refine awp_plain hN rfl ?_
    refine seq_run0 (stp_lss rfl rfl) ?_
    refine awp_seq ?_
    refine awp_cond _ rfl (fun h => (lt_t h).elim) (fun h => ?_)
    refine awp_exit ?_
    refine awp_seq ?_
    refine awp_plain hN rfl ?_
    refine seq_run0 (stp_assign (.dat _) rfl) ?_
    refine awp_ret ?_
    cases H
    exact ⟨trivial, .inl rfl, trivial⟩
  · rintro k3 x6 ⟨⟩ q4 h7 h8 H hq4
    replace H : gateref2_only_L1 some2 k3 x6 = some q4 := H
    unfold gateref2_only_L1 at H
    refine awp_seq ?_
    refine awp_plain hN rfl ?_
    refine seq_run0 (stp_lss rfl rfl) ?_
    refine awp_seq ?_
    refine awp_cond _ rfl (fun h => ?_) (fun h => (lt_f h7 h).elim)
    refine awp_skip ?_
    refine awp_seq ?_
    refine awp_block ?_
    refine awp_seq ?_
    refine awp_plain hN rfl ?_
    refine seq_run0 (stp_move (.dat _) rfl) ?_
    refine seq_run0 (stp_assign (.dat _) rfl) ?_
    refine awp_seq ?_
    refine awp_plain hN rfl ?_
    refine seq_run0 (stp_move (.dat _) rfl) ?_
    refine seq_run0 (stp_move (.dat _) rfl) ?_
    refine seq_run0 (stp_move (.dat _) rfl) ?_
    refine seq_run0 (t_byte tyU9 rfl rfl h8) ?_
    obtain ⟨r9, h10, H⟩ := bnd H
    refine seq_run0 (stp_call (k_strings_IndexByte some2 (x6.toNat : Int) r9 h10) ⟨.inl rfl, .inl rfl, trivial⟩) ?_
    refine seq_run0 (stp_lss rfl rfl) ?_
    refine awp_cond _ rfl (fun h11 => ?_) (fun h11 => ?_)
    · replace H := ift h11 H
      refine awp_seq ?_
      refine awp_plain hN rfl ?_
      refine seq_run0 (stp_assign (.dat _) rfl) ?_
      refine awp_ret ?_
      replace H := retl H hq4
      cases H
      exact ⟨trivial, .inl rfl, trivial⟩
    · replace H := iff_ h11 H
      refine awp_skip ?_
      refine awp_plain hN rfl ?_
      refine seq_run0 (stp_add rfl rfl (by omega)) ?_
      refine seq_run0 (stp_move (.dat _) rfl) ?_
      exact ⟨_, backl H, ⟨rfl, rfl, rfl, rfl, trivial⟩, trivial⟩
theorem k_gateref2_Key (s1 : Bs) (r : (Bool)) (H : m_gateref2_Key s1 = some r) : Fn Try.prog 89 [vstr s1] (resOf [vbool r]) := by
  refine ⟨by kernel_rfl, pure_of (us := [vbool r]) Try.func89 rfl rfl rfl rfl fun X hN => ?_⟩
  unfold m_gateref2_Key at H
  refine awp_seq ?_
  refine awp_plain hN rfl ?_
  refine seq_run0 (stp_assign (.dat _) rfl) ?_
  refine awp_joinE (ι := Bool) (fun i => [(2, .dat (vbool i))]) (fun i => []) (fun i => gateref2_Key_J1 i = some r) (fun i => rfl) ?_ ?_
  · skip
    refine awp_plain hN rfl ?_
    refine seq_run0 (stp_move (.dat _) rfl) ?_
    refine seq_run0 (stp_len_str tyU9 rfl) ?_
    obtain ⟨r2, h3, H⟩ := bnd H
    refine seq_run0 (stp_call (k_gateref2_in (s1.length : Int) 1 40 r2 h3) ⟨.inl rfl, .inl rfl, .inl rfl, trivial⟩) ?_
    refine seq_run0 (stp_move (.dat _) rfl) ?_
    refine seq_split (j := 3) rfl rfl (fun h4 => ?_) (fun h4 => ?_) rfl
    · have h5 := un1 h4
      replace H := ift h5 H
      refine seq_g0 rfl rfl h4 (stp_move (.dat _) rfl) ?_
      obtain ⟨l6, h7, H⟩ := bnd H
      refine seq_g0 rfl rfl h4 (t_subS tyU9 rfl rfl rfl h7) ?_
      obtain ⟨r8, h9, H⟩ := bnd H
      refine seq_g0 rfl rfl h4 (stp_call (k_gateref2_only l6 [97, 98, 99, 100, 101, 102, 103, 104, 105, 106, 107, 108, 109, 110, 111, 112, 113, 114, 115, 116, 117, 118, 119, 120, 121, 122] r8 h9) ⟨.inl rfl, .inl rfl, trivial⟩) ?_
      refine seq_run0 (stp_pick_t rfl (bTT h5) rfl) ?_
      refine seq_run0 (stp_move (.dat _) rfl) ?_
      refine seq_split (j := 8) rfl rfl (fun h10 => ?_) (fun h10 => ?_) rfl
      · have h11 := un1 h10
        replace H := ift h11 H
        refine seq_g0 rfl rfl h10 (stp_move (.dat _) rfl) ?_
        obtain ⟨r12, h13, H⟩ := bnd H
        refine seq_g0 rfl rfl h10 (stp_call (k_gateref2_only s1 [97, 98, 99, 100, 101, 102, 103, 104, 105, 106, 107, 108, 109, 110, 111, 112, 113, 114, 115, 116, 117, 118, 119, 120, 121, 122, 48, 49, 50, 51, 52, 53, 54, 55, 56, 57, 45, 95] r12 h13) ⟨.inl rfl, .inl rfl, trivial⟩) ?_
        refine seq_run0 (stp_pick_t rfl (bTT h11) rfl) ?_
        refine seq_run0 (stp_assign (.dat _) rfl) ?_
        exact ⟨r12, H, ⟨rfl, trivial⟩, trivial⟩
      · have h14 := un2 h10
        replace H := iff_ h14 H
        refine seq_skip rfl rfl h10 ?_
        refine seq_skip rfl rfl h10 ?_
        refine seq_run0 (stp_pick_f rfl (bFF h14) rfl) ?_
        refine seq_run0 (stp_assign (.dat _) rfl) ?_
        exact ⟨false, H, ⟨rfl, trivial⟩, trivial⟩
    · have h15 := un2 h4
      replace H := iff_ h15 H
      refine seq_skip rfl rfl h4 ?_
      refine seq_skip rfl rfl h4 ?_
      refine seq_skip rfl rfl h4 ?_
      refine seq_run0 (stp_pick_f rfl (bFF h15) rfl) ?_
      refine seq_run0 (stp_move (.dat _) rfl) ?_
      refine seq_skip rfl rfl rfl ?_
      refine seq_skip rfl rfl rfl ?_
      refine seq_run0 (stp_pick_f rfl rfl rfl) ?_
      refine seq_run0 (stp_assign (.dat _) rfl) ?_
      exact ⟨false, H, ⟨rfl, trivial⟩, trivial⟩
  · rintro v16 H
    replace H : gateref2_Key_J1 v16 = some r := H
    unfold gateref2_Key_J1 at H
    refine awp_ret ?_
    cases H
    exact ⟨trivial, .inl rfl, trivial⟩
theorem k_gateref2_InstancesFault (l1 : (List S_api_Instance)) (r : (Int)) (H : m_gateref2_InstancesFault l1 = some r) : Fn Try.prog 26 [vlst (List.map C_api_Instance l1)] (resOf [vint r]) := by
  refine ⟨by kernel_rfl, pure_of (us := [vint r]) Try.func26 rfl rfl rfl rfl fun X hN => ?_⟩
  unfold m_gateref2_InstancesFault at H
  refine awp_seq ?_
  refine awp_plain hN rfl ?_
  refine seq_run0 (stp_assign (.dat _) rfl) ?_
  refine awp_seq ?_
  refine awp_seq ?_
  refine awp_plain hN rfl ?_
  refine seq_run0 (stp_move (.dat _) rfl) ?_
  refine seq_run0 (t_len tyU48 rfl) ?_
  refine seq_run0 (stp_gtr rfl rfl) ?_
  refine awp_cond _ rfl (fun h2 => ?_) (fun h2 => ?_)
  · replace H := ift h2 H
    refine awp_seq ?_
    refine awp_plain hN rfl ?_
    refine seq_run0 (stp_assign (.dat _) rfl) ?_
    refine awp_ret ?_
    cases H
    exact ⟨trivial, .inl rfl, trivial⟩
  · replace H := iff_ h2 H
    refine awp_skip ?_
    refine awp_seq ?_
    refine awp_plain hN rfl ?_
    refine seq_run0 (stp_assign (.dat _) rfl) ?_
    refine awp_seq ?_
    refine awp_seq ?_
    refine awp_plain hN rfl ?_
    refine seq_run0 (stp_move (.dat _) rfl) ?_
    refine seq_run0 (t_len tyU48 rfl) ?_
    refine seq_run0 (stp_move (.dat _) rfl) ?_
    refine awp_block ?_
    obtain ⟨h6, H⟩ := gif H
    refine awp_forL (fun (k4 : Nat) (s : Bs) => [(3, .dat (vstr s)), (9, .dat (vlst (List.map C_api_Instance l1))), (10, .dat (vint (l1.length : Int))), (11, .dat (vint (k4 : Int)))]) (fun (k4 : Nat) (s : Bs) => []) [] H ⟨rfl, rfl, rfl, rfl, trivial⟩ trivial (fun _ _ => rfl) ?_ ?_
    · rintro last3 H
      replace H : gateref2_InstancesFault_E1 last3 = some r := H
      unfold gateref2_InstancesFault_E1 at H
      refine awp_seq ?_
      refine awp_plain hN rfl ?_
      refine seq_run0 (stp_lss rfl rfl) ?_
      refine awp_seq ?_
      refine awp_cond _ rfl (fun h => (lt_t h).elim) (fun h => ?_)
      refine awp_exit ?_
      refine awp_seq ?_
      refine awp_plain hN rfl ?_
      refine seq_run0 (stp_assign (.dat _) rfl) ?_
      refine awp_ret ?_
      cases H
      exact ⟨trivial, .inl rfl, trivial⟩
    · rintro k4 x7 last3 q5 h8 h9 H hq5
      replace H : gateref2_InstancesFault_L1 k4 x7 last3 = some q5 := H
      unfold gateref2_InstancesFault_L1 at H
      refine awp_seq ?_
      refine awp_plain hN rfl ?_
      refine seq_run0 (stp_lss rfl rfl) ?_
      refine awp_seq ?_
      refine awp_cond _ rfl (fun h => ?_) (fun h => (lt_f h8 h).elim)
      refine awp_skip ?_
      refine awp_seq ?_
      refine awp_block ?_
      refine awp_seq ?_
      refine awp_plain hN rfl ?_
      refine seq_run0 (t_idx tyE48 (fun _ => rfl) rfl rfl h9) ?_
      refine seq_run0 (stp_loadEA tyS114 rfl (map_at h9) rfl) ?_
      refine seq_run2 (stp_alloc 1 tyZ114 rfl) rfl ?_
      refine seq_run2 (stp_storeW tyS114 rfl rfl rfl rfl) rfl ?_
      refine awp_seq ?_
      refine awp_block ?_
      refine awp_seq ?_
      refine awp_plain hN rfl ?_
      refine seq_run0 (stp_fldP tyF114_0 rfl) ?_
      refine seq_run1 (stp_load1 tyS9 rfl rfl) rfl ?_
      obtain ⟨r10, h11, H⟩ := bnd H
      refine seq_run0 (stp_call (k_gateref2_Key x7.Key r10 h11) ⟨.inl rfl, trivial⟩) ?_
      refine seq_run0 (stp_not rfl) ?_
      refine seq_run0 (stp_assign (.dat _) rfl) ?_
      refine awp_cond _ rfl (fun h12 => ?_) (fun h12 => ?_)
      · replace H := ift h12 H
        refine awp_seq ?_
        refine awp_plain hN rfl ?_
        refine seq_run0 (stp_assign (.dat _) rfl) ?_
        refine awp_ret ?_
        replace H := retl H hq5
        cases H
        exact ⟨trivial, .inl rfl, trivial⟩
      · replace H := iff_ h12 H
        refine awp_seq ?_
        refine awp_plain hN rfl ?_
        refine seq_run0 (stp_fldP tyF114_0 rfl) ?_
        refine seq_run1 (stp_load1 tyS9 rfl rfl) rfl ?_
        refine seq_run0 (stp_move (.dat _) rfl) ?_
        refine seq_run0 (stp_sleq rfl rfl) ?_
        refine seq_run0 (stp_assign (.dat _) rfl) ?_
        refine awp_cond _ rfl (fun h13 => ?_) (fun h13 => ?_)
        · replace H := ift h13 H
          refine awp_seq ?_
          refine awp_plain hN rfl ?_
          refine seq_run0 (stp_assign (.dat _) rfl) ?_
          refine awp_ret ?_
          replace H := retl H hq5
          cases H
          exact ⟨trivial, .inl rfl, trivial⟩
        · replace H := iff_ h13 H
          refine awp_seq ?_
          refine awp_plain hN rfl ?_
          refine seq_run0 (stp_fldP tyF114_1 rfl) ?_
          refine seq_run1 (stp_load1 tyS3 rfl rfl) rfl ?_
          obtain ⟨r14, h15, H⟩ := bnd H
          refine seq_run0 (stp_call (k_gateref2_in x7.Weight 1 100 r14 h15) ⟨.inl rfl, .inl rfl, .inl rfl, trivial⟩) ?_
          refine seq_run0 (stp_not rfl) ?_
          refine seq_run0 (stp_assign (.dat _) rfl) ?_
          refine awp_cond _ rfl (fun h16 => ?_) (fun h16 => ?_)
          · replace H := ift h16 H
            refine awp_seq ?_
            refine awp_plain hN rfl ?_
            refine seq_run0 (stp_assign (.dat _) rfl) ?_
            refine awp_ret ?_
            replace H := retl H hq5
            cases H
            exact ⟨trivial, .inl rfl, trivial⟩
          · replace H := iff_ h16 H
            refine awp_skip ?_
            refine awp_plain hN rfl ?_
            refine seq_run0 (stp_fldP tyF114_0 rfl) ?_
            refine seq_run1 (stp_load1 tyS9 rfl rfl) rfl ?_
            refine seq_run0 (stp_assign (.dat _) rfl) ?_
            refine awp_plain hN rfl ?_
            refine seq_run0 (stp_add rfl rfl (by omega)) ?_
            refine seq_run0 (stp_move (.dat _) rfl) ?_
            exact ⟨_, backl H, ⟨rfl, rfl, rfl, rfl, trivial⟩, trivial⟩
theorem k_gateref2_Moment (v1 : Int) (r : (Bool)) (H : m_gateref2_Moment v1 = some r) : Fn Try.prog 96 [vint v1] (resOf [vbool r]) := by
  refine ⟨by kernel_rfl, pure_of (us := [vbool r]) Try.func96 rfl rfl rfl rfl fun X hN => ?_⟩
  unfold m_gateref2_Moment at H
  refine awp_seq ?_
  refine awp_plain hN rfl ?_
  refine seq_run0 (stp_assign (.dat _) rfl) ?_
  refine awp_seq ?_
  refine awp_plain hN rfl ?_
  refine seq_run0 (stp_move (.dat _) rfl) ?_
  obtain ⟨r2, h3, H⟩ := bnd H
  refine seq_run0 (stp_call (k_gateref2_in v1 0 345686399999 r2 h3) ⟨.inl rfl, .inl rfl, .inl rfl, trivial⟩) ?_
  refine seq_run0 (stp_assign (.dat _) rfl) ?_
  refine awp_ret ?_
  cases H
  exact ⟨trivial, .inl rfl, trivial⟩
theorem k_slices_IndexFunc_L_api_Instance_api_Instance_ (s1 : (List S_api_Instance)) (p1 : S_api_Instance → Option (Bool)) (fv1 : Nat) (us1 : List V) (hp1 : ∀ a0 r, p1 a0 = some r → Fn Try.prog fv1 ([vagg (C_api_Instance a0)] ++ us1) (resOf [vbool r])) (r : (Int)) (H : m_slices_IndexFunc_L_api_Instance_api_Instance_ s1 p1 = some r) : Fn Try.prog 121 [vlst (List.map C_api_Instance s1), vfn fv1 us1] (resOf [vint r]) := by
  refine ⟨by kernel_rfl, pure_of (us := [vint r]) Try.func121 rfl rfl rfl rfl fun X hN => ?_⟩
  unfold m_slices_IndexFunc_L_api_Instance_api_Instance_ at H
  refine awp_seq ?_
  refine awp_plain hN rfl ?_
  refine seq_run0 (stp_assign (.dat _) rfl) ?_
  refine awp_seq ?_
  refine awp_seq ?_
  refine awp_plain hN rfl ?_
  refine seq_run0 (stp_move (.dat _) rfl) ?_
  refine seq_run0 (t_len tyU48 rfl) ?_
  refine seq_run0 (stp_move (.dat _) rfl) ?_
  refine awp_block ?_
  obtain ⟨h4, H⟩ := gif H
  refine awp_forL (fun (k2 : Nat) (s : Unit) => [(0, .dat (vlst (List.map C_api_Instance s1))), (1, .dat (vfn fv1 us1)), (7, .dat (vint (s1.length : Int))), (8, .dat (vint (k2 : Int)))]) (fun (k2 : Nat) (s : Unit) => []) () H ⟨rfl, rfl, rfl, rfl, trivial⟩ trivial (fun _ _ => rfl) ?_ ?_
  · rintro ⟨⟩ H
    replace H : slices_IndexFunc_L_api_Instance_api_Instance__E1 = some r := H
    unfold slices_IndexFunc_L_api_Instance_api_Instance__E1 at H
    refine awp_seq ?_
    refine awp_plain hN rfl ?_
    refine seq_run0 (stp_lss rfl rfl) ?_
    refine awp_seq ?_
    refine awp_cond _ rfl (fun h => (lt_t h).elim) (fun h => ?_)
    refine awp_exit ?_
    refine awp_seq ?_
    refine awp_plain hN rfl ?_
    refine seq_run0 (stp_assign (.dat _) rfl) ?_
    refine awp_ret ?_
    cases H
    exact ⟨trivial, .inl rfl, trivial⟩
  · rintro k2 x5 ⟨⟩ q3 h6 h7 H hq3
    replace H : slices_IndexFunc_L_api_Instance_api_Instance__L1 p1 k2 x5 = some q3 := H
    unfold slices_IndexFunc_L_api_Instance_api_Instance__L1 at H
    refine awp_seq ?_
    refine awp_plain hN rfl ?_
    refine seq_run0 (stp_lss rfl rfl) ?_
    refine awp_seq ?_
    refine awp_cond _ rfl (fun h => ?_) (fun h => (lt_f h6 h).elim)
    refine awp_skip ?_
    refine awp_seq ?_
    refine awp_block ?_
    refine awp_seq ?_
    refine awp_plain hN rfl ?_
    refine seq_run0 (stp_move (.dat _) rfl) ?_
    refine seq_run0 (stp_assign (.dat _) rfl) ?_
    refine awp_seq ?_
    refine awp_plain hN rfl ?_
    refine seq_run0 (stp_move (.dat _) rfl) ?_
    refine seq_run0 (stp_move (.dat _) rfl) ?_
    refine seq_run0 (stp_move (.dat _) rfl) ?_
    refine seq_run0 (t_idx tyE48 (fun _ => rfl) rfl rfl h7) ?_
    refine seq_run0 (stp_loadEA tyS114 rfl (map_at h7) rfl) ?_
    obtain ⟨r8, h9, H⟩ := bnd H
    refine seq_run0 (stp_callv (hp1 x5 r8 h9) rfl ⟨.inl rfl, trivial⟩) ?_
    refine awp_cond _ rfl (fun h10 => ?_) (fun h10 => ?_)
    · replace H := ift h10 H
      refine awp_seq ?_
      refine awp_plain hN rfl ?_
      refine seq_run0 (stp_move (.dat _) rfl) ?_
      refine seq_run0 (stp_assign (.dat _) rfl) ?_
      refine awp_ret ?_
      replace H := retl H hq3
      cases H
      exact ⟨trivial, .inl rfl, trivial⟩
    · replace H := iff_ h10 H
      refine awp_skip ?_
      refine awp_plain hN rfl ?_
      refine seq_run0 (stp_add rfl rfl (by omega)) ?_
      refine seq_run0 (stp_move (.dat _) rfl) ?_
      exact ⟨_, backl H, ⟨rfl, rfl, rfl, rfl, trivial⟩, trivial⟩
theorem k_gateref2_InstanceAt_1 (x1 : S_api_Instance) (c2 : Bs) (r : (Bool)) (H : m_gateref2_InstanceAt_1 x1 c2 = some r) : Fn Try.prog 122 [vagg (C_api_Instance x1), vcell [[vstr c2]] 0 0] (resOf [vbool r]) := by
  refine ⟨by kernel_rfl, pure_of (us := [vbool r]) Try.func122 rfl rfl rfl rfl fun X hN => ?_⟩
  unfold m_gateref2_InstanceAt_1 at H
  refine awp_seq ?_
  refine awp_plain hN rfl ?_
  refine seq_run2 (stp_boxA 1 rfl) rfl ?_
  refine seq_run0 (stp_assign (.dat _) rfl) ?_
  refine awp_seq ?_
  refine awp_plain hN rfl ?_
  refine seq_run0 (stp_fldP tyF114_0 rfl) ?_
  refine seq_run1 (stp_load1 tyS9 rfl rfl) rfl ?_
  refine seq_run0 (stp_loadE1 tyS9 rfl rfl rfl) ?_
  refine seq_run0 (stp_seql rfl rfl) ?_
  refine seq_run0 (stp_assign (.dat _) rfl) ?_
  refine awp_ret ?_
  cases H
  exact ⟨trivial, .inl rfl, trivial⟩
theorem k_gateref2_InstanceAt (l1 : (List S_api_Instance)) (key2 : Bs) (r : (Int)) (H : m_gateref2_InstanceAt l1 key2 = some r) : Fn Try.prog 90 [vlst (List.map C_api_Instance l1), vstr key2] (resOf [vint r]) := by
  refine ⟨by kernel_rfl, pure_of (us := [vint r]) Try.func90 rfl rfl rfl rfl fun X hN => ?_⟩
  unfold m_gateref2_InstanceAt at H
  refine awp_seq ?_
  refine awp_plain hN rfl ?_
  refine seq_run2 (stp_box1 1 rfl rfl) rfl ?_
  refine seq_run0 (stp_assign (.dat _) rfl) ?_
  refine awp_seq ?_
  refine awp_frzB 1 [vstr key2] rfl rfl ?_
  refine awp_plain hN rfl ?_
  refine seq_run0 (stp_move (.dat _) rfl) ?_
  refine seq_run0 (stp_mkfn (us := [_]) ⟨rfl, trivial⟩) ?_
  obtain ⟨r3, h4, H⟩ := bnd H
  refine seq_run0 (stp_call (k_slices_IndexFunc_L_api_Instance_api_Instance_ l1 (fun (a0 : S_api_Instance) => m_gateref2_InstanceAt_1 a0 key2) 122 [vcell [[vstr key2]] 0 0] (fun a0 r h => k_gateref2_InstanceAt_1 a0 key2 r h) r3 h4) ⟨.inl rfl, .inl rfl, trivial⟩) ?_
  refine seq_run0 (stp_assign (.dat _) rfl) ?_
  refine awp_ret ?_
  cases H
  exact ⟨trivial, .inl rfl, trivial⟩
theorem k_gateref2_ProbesFault (l1 : (List S_api_Instance)) (p2 : (List S_api_Probe)) (r : (Int)) (H : m_gateref2_ProbesFault l1 p2 = some r) : Fn Try.prog 41 [vlst (List.map C_api_Instance l1), vlst (List.map C_api_Probe p2)] (resOf [vint r]) := by
  refine ⟨by kernel_rfl, pure_of (us := [vint r]) Try.func41 rfl rfl rfl rfl fun X hN => ?_⟩
  unfold m_gateref2_ProbesFault at H
  refine awp_seq ?_
  refine awp_plain hN rfl ?_
  refine seq_run0 (stp_assign (.dat _) rfl) ?_
  refine awp_seq ?_
  refine awp_seq ?_
  refine awp_plain hN rfl ?_
  refine seq_run0 (stp_move (.dat _) rfl) ?_
  refine seq_run0 (t_len tyU68 rfl) ?_
  refine seq_run0 (stp_gtr rfl rfl) ?_
  refine awp_cond _ rfl (fun h3 => ?_) (fun h3 => ?_)
  · replace H := ift h3 H
    refine awp_seq ?_
    refine awp_plain hN rfl ?_
    refine seq_run0 (stp_assign (.dat _) rfl) ?_
    refine awp_ret ?_
    cases H
    exact ⟨trivial, .inl rfl, trivial⟩
  · replace H := iff_ h3 H
    refine awp_skip ?_
    refine awp_seq ?_
    refine awp_seq ?_
    refine awp_plain hN rfl ?_
    refine seq_run0 (stp_move (.dat _) rfl) ?_
    refine seq_run0 (t_len tyU68 rfl) ?_
    refine seq_run0 (stp_move (.dat _) rfl) ?_
    refine awp_block ?_
    obtain ⟨h6, H⟩ := gif H
    refine awp_forL (fun (k4 : Nat) (s : Unit) => [(0, .dat (vlst (List.map C_api_Instance l1))), (1, .dat (vlst (List.map C_api_Probe p2))), (10, .dat (vlst (List.map C_api_Probe p2))), (11, .dat (vint (p2.length : Int))), (12, .dat (vint (k4 : Int)))]) (fun (k4 : Nat) (s : Unit) => []) () H ⟨rfl, rfl, rfl, rfl, rfl, trivial⟩ trivial (fun _ _ => rfl) ?_ ?_
    · rintro ⟨⟩ H
      replace H : gateref2_ProbesFault_E1 = some r := H
      unfold gateref2_ProbesFault_E1 at H
      refine awp_seq ?_
      refine awp_plain hN rfl ?_
      refine seq_run0 (stp_lss rfl rfl) ?_
      refine awp_seq ?_
      refine awp_cond _ rfl (fun h => (lt_t h).elim) (fun h => ?_)
      refine awp_exit ?_
      refine awp_seq ?_
      refine awp_plain hN rfl ?_
      refine seq_run0 (stp_assign (.dat _) rfl) ?_
      refine awp_ret ?_
      cases H
      exact ⟨trivial, .inl rfl, trivial⟩
    · rintro k4 x7 ⟨⟩ q5 h8 h9 H hq5
      replace H : gateref2_ProbesFault_L1 l1 p2 k4 x7 = some q5 := H
      unfold gateref2_ProbesFault_L1 at H
      refine awp_seq ?_
      refine awp_plain hN rfl ?_
      refine seq_run0 (stp_lss rfl rfl) ?_
      refine awp_seq ?_
      refine awp_cond _ rfl (fun h => ?_) (fun h => (lt_f h8 h).elim)
      refine awp_skip ?_
      refine awp_seq ?_
      refine awp_block ?_
      refine awp_seq ?_
      refine awp_plain hN rfl ?_
      refine seq_run0 (stp_move (.dat _) rfl) ?_
      refine seq_run0 (t_idx tyE68 (fun _ => rfl) rfl rfl h9) ?_
      refine seq_run0 (stp_loadEA tyS136 rfl (map_at h9) rfl) ?_
      refine seq_run2 (stp_alloc 1 tyZ136 rfl) rfl ?_
      refine seq_run0 (stp_assign (.dat _) rfl) ?_
      refine seq_run2 (stp_storeW tyS136 rfl rfl rfl rfl) rfl ?_
      refine awp_block ?_
      refine awp_seq ?_
      refine awp_plain hN rfl ?_
      refine seq_run0 (stp_fldP tyF136_0 rfl) ?_
      refine seq_run1 (stp_load1 tyS3 rfl rfl) rfl ?_
      obtain ⟨r10, h11, H⟩ := bnd H
      refine seq_run0 (stp_call (k_gateref2_Moment x7.At r10 h11) ⟨.inl rfl, trivial⟩) ?_
      refine seq_run0 (stp_not rfl) ?_
      refine seq_run0 (stp_assign (.dat _) rfl) ?_
      refine awp_cond _ rfl (fun h12 => ?_) (fun h12 => ?_)
      · replace H := ift h12 H
        refine awp_seq ?_
        refine awp_plain hN rfl ?_
        refine seq_run0 (stp_assign (.dat _) rfl) ?_
        refine awp_ret ?_
        replace H := retl H hq5
        cases H
        exact ⟨trivial, .inl rfl, trivial⟩
      · replace H := iff_ h12 H
        refine awp_seq ?_
        refine awp_plain hN rfl ?_
        refine seq_run0 (stp_move (.dat _) rfl) ?_
        refine seq_run0 (stp_fldP tyF136_1 rfl) ?_
        refine seq_run1 (stp_load1 tyS9 rfl rfl) rfl ?_
        obtain ⟨r13, h14, H⟩ := bnd H
        refine seq_run0 (stp_call (k_gateref2_InstanceAt l1 x7.Instance r13 h14) ⟨.inl rfl, .inl rfl, trivial⟩) ?_
        refine seq_run0 (stp_lss rfl rfl) ?_
        refine seq_run0 (stp_assign (.dat _) rfl) ?_
        refine awp_cond _ rfl (fun h15 => ?_) (fun h15 => ?_)
        · replace H := ift h15 H
          refine awp_seq ?_
          refine awp_plain hN rfl ?_
          refine seq_run0 (stp_assign (.dat _) rfl) ?_
          refine awp_ret ?_
          replace H := retl H hq5
          cases H
          exact ⟨trivial, .inl rfl, trivial⟩
        · replace H := iff_ h15 H
          refine awp_joinE (ι := Bool) (fun i => [(0, .dat (vlst (List.map C_api_Instance l1))), (1, .dat (vlst (List.map C_api_Probe p2))), (10, .dat (vlst (List.map C_api_Probe p2))), (11, .dat (vint (p2.length : Int))), (12, .dat (vint (k4 : Int))), (28, .dat (vbool i))]) (fun i => []) (fun i => gateref2_ProbesFault_J2 i = some q5) (fun i => rfl) ?_ ?_
          · skip
            refine awp_draw mixed hN rfl rfl ?_
            refine seq_run0 (stp_move (.dat _) rfl) ?_
            refine seq_run0 (stp_gtr rfl rfl) ?_
            refine seq_run0 (stp_move (.dat _) rfl) ?_
            refine seq_split (j := 2) rfl rfl (fun h16 => ?_) (fun h16 => ?_) rfl
            · have h17 := un1 h16
              replace H := ift h17 H
              refine seq_g0 rfl rfl h16 (stp_fldP tyF136_0 rfl) ?_
              refine seq_g1 rfl rfl h16 (stp_load1 tyS3 rfl rfl) rfl ?_
              refine seq_g0 rfl rfl h16 (stp_move (.dat _) rfl) ?_
              refine seq_g0 rfl rfl h16 (stp_move (.dat _) rfl) ?_
              refine seq_g0 rfl rfl h16 (stp_sub rfl rfl (by omega)) ?_
              obtain ⟨x18, h19, H⟩ := bnd H
              refine seq_g0 rfl rfl h16 (t_idxI tyE68 (fun _ => rfl) rfl rfl h19) ?_
              refine seq_g0 rfl rfl h16 (stp_fldE tyF136_0 rfl) ?_
              refine seq_g0 rfl rfl h16 (stp_loadE1 tyS3 rfl (map_at (at_some h19).2) rfl) ?_
              refine seq_g0 rfl rfl h16 (stp_lss rfl rfl) ?_
              refine seq_run0 (stp_pick_t rfl (bTT h17) rfl) ?_
              refine seq_run0 (stp_assign (.dat _) rfl) ?_
              refine ⟨rfl, ?_⟩
              exact ⟨decide (x7.At < x18.At), H, ⟨rfl, rfl, rfl, rfl, rfl, rfl, trivial⟩, trivial⟩
            · have h20 := un2 h16
              replace H := iff_ h20 H
              refine seq_skip rfl rfl h16 ?_
              refine seq_skip rfl rfl h16 ?_
              refine seq_skip rfl rfl h16 ?_
              refine seq_skip rfl rfl h16 ?_
              refine seq_skip rfl rfl h16 ?_
              refine seq_skip rfl rfl h16 ?_
              refine seq_skip rfl rfl h16 ?_
              refine seq_skip rfl rfl h16 ?_
              refine seq_skip rfl rfl h16 ?_
              refine seq_run0 (stp_pick_f rfl (bFF h20) rfl) ?_
              refine seq_run0 (stp_assign (.dat _) rfl) ?_
              refine ⟨rfl, ?_⟩
              exact ⟨false, H, ⟨rfl, rfl, rfl, rfl, rfl, rfl, trivial⟩, trivial⟩
          · rintro v21 H
            replace H : gateref2_ProbesFault_J2 v21 = some q5 := H
            unfold gateref2_ProbesFault_J2 at H
            refine awp_cond _ rfl (fun h22 => ?_) (fun h22 => ?_)
            · replace H := ift h22 H
              refine awp_seq ?_
              refine awp_plain hN rfl ?_
              refine seq_run0 (stp_assign (.dat _) rfl) ?_
              refine awp_ret ?_
              replace H := retl H hq5
              cases H
              exact ⟨trivial, .inl rfl, trivial⟩
            · replace H := iff_ h22 H
              refine awp_skip ?_
              refine awp_plain hN rfl ?_
              refine seq_run0 (stp_add rfl rfl (by omega)) ?_
              refine seq_run0 (stp_move (.dat _) rfl) ?_
              exact ⟨_, backl H, ⟨rfl, rfl, rfl, rfl, rfl, trivial⟩, trivial⟩
theorem k_gatelaw2_errs (l1 : (List Int)) (r : (Int)) (H : m_gatelaw2_errs l1 = some r) : Fn Try.prog 40 [vlst (List.map C_api_Errno l1)] (resOf [vint r]) := by
  refine ⟨by kernel_rfl, pure_of (us := [vint r]) Try.func40 rfl rfl rfl rfl fun X hN => ?_⟩
  unfold m_gatelaw2_errs at H
  refine awp_seq ?_
  refine awp_plain hN rfl ?_
  refine seq_run0 (stp_assign (.dat _) rfl) ?_
  refine awp_seq ?_
  refine awp_seq ?_
  refine awp_plain hN rfl ?_
  refine seq_run0 (stp_move (.dat _) rfl) ?_
  refine seq_run0 (t_len tyU143 rfl) ?_
  refine seq_run0 (stp_move (.dat _) rfl) ?_
  refine awp_block ?_
  obtain ⟨h4, H⟩ := gif H
  refine awp_forL (fun (k2 : Nat) (s : Unit) => [(5, .dat (vlst (List.map C_api_Errno l1))), (6, .dat (vint (l1.length : Int))), (7, .dat (vint (k2 : Int)))]) (fun (k2 : Nat) (s : Unit) => []) () H ⟨rfl, rfl, rfl, trivial⟩ trivial (fun _ _ => rfl) ?_ ?_
  · rintro ⟨⟩ H
    replace H : gatelaw2_errs_E1 = some r := H
    unfold gatelaw2_errs_E1 at H
    refine awp_seq ?_
    refine awp_plain hN rfl ?_
    refine seq_run0 (stp_lss rfl rfl) ?_
    refine awp_seq ?_
    refine awp_cond _ rfl (fun h => (lt_t h).elim) (fun h => ?_)
    refine awp_exit ?_
    refine awp_seq ?_
    refine awp_plain hN rfl ?_
    refine seq_run0 (stp_assign (.dat _) rfl) ?_
    refine awp_ret ?_
    cases H
    exact ⟨trivial, .inl rfl, trivial⟩
  · rintro k2 x5 ⟨⟩ q3 h6 h7 H hq3
    replace H : gatelaw2_errs_L1 k2 x5 = some q3 := H
    unfold gatelaw2_errs_L1 at H
    refine awp_seq ?_
    refine awp_plain hN rfl ?_
    refine seq_run0 (stp_lss rfl rfl) ?_
    refine awp_seq ?_
    refine awp_cond _ rfl (fun h => ?_) (fun h => (lt_f h6 h).elim)
    refine awp_skip ?_
    refine awp_seq ?_
    refine awp_block ?_
    refine awp_seq ?_
    refine awp_plain hN rfl ?_
    refine seq_run0 (t_idx tyE143 (fun _ => rfl) rfl rfl h7) ?_
    refine seq_run0 (stp_loadE1 tyS30 rfl (map_at h7) rfl) ?_
    refine seq_run0 (stp_assign (.dat _) rfl) ?_
    refine awp_seq ?_
    refine awp_plain hN rfl ?_
    refine seq_run0 (stp_move (.dat _) rfl) ?_
    refine seq_run0 (stp_neq rfl rfl) ?_
    refine awp_cond _ rfl (fun h8 => ?_) (fun h8 => ?_)
    · replace H := ift h8 H
      refine awp_seq ?_
      refine awp_plain hN rfl ?_
      refine seq_run0 (stp_move (.dat _) rfl) ?_
      refine seq_run0 (stp_assign (.dat _) rfl) ?_
      refine awp_ret ?_
      replace H := retl H hq3
      cases H
      exact ⟨trivial, .inl rfl, trivial⟩
    · replace H := iff_ h8 H
      refine awp_skip ?_
      refine awp_plain hN rfl ?_
      refine seq_run0 (stp_add rfl rfl (by omega)) ?_
      refine seq_run0 (stp_move (.dat _) rfl) ?_
      exact ⟨_, backl H, ⟨rfl, rfl, rfl, trivial⟩, trivial⟩
theorem k_gateref2_HealthFault (h1 : S_api_Health) (r : (Int)) (H : m_gateref2_HealthFault h1 = some r) : Fn Try.prog 42 [vagg (C_api_Health h1)] (resOf [vint r]) := by
  refine ⟨by kernel_rfl, pure_of (us := [vint r]) Try.func42 rfl rfl rfl rfl fun X hN => ?_⟩
  unfold m_gateref2_HealthFault at H
  refine awp_seq ?_
  refine awp_plain hN rfl ?_
  refine seq_run2 (stp_boxA 1 rfl) rfl ?_
  refine seq_run0 (stp_assign (.dat _) rfl) ?_
  refine awp_seq ?_
  refine awp_joinE (ι := Bool) (fun i => [(12, .dat (vbool i))]) (fun i => []) (fun i => gateref2_HealthFault_J1 i = some r) (fun i => rfl) ?_ ?_
  · skip
    refine awp_plain hN rfl ?_
    refine seq_run0 (stp_fldP tyF66_0 rfl) ?_
    refine seq_run1 (stp_load1 tyS3 rfl rfl) rfl ?_
    obtain ⟨r2, h3, H⟩ := bnd H
    refine seq_run0 (stp_call (k_gateref2_in h1.Rise 1 100 r2 h3) ⟨.inl rfl, .inl rfl, .inl rfl, trivial⟩) ?_
    refine seq_run0 (stp_not rfl) ?_
    refine seq_run0 (stp_move (.dat _) rfl) ?_
    refine seq_split (j := 4) rfl rfl (fun h4 => ?_) (fun h4 => ?_) rfl
    · have h5 := un3 h4
      replace H := iff_ h5 H
      refine seq_g0 rfl rfl h4 (stp_fldP tyF66_1 rfl) ?_
      refine seq_g1 rfl rfl h4 (stp_load1 tyS3 rfl rfl) rfl ?_
      obtain ⟨r6, h7, H⟩ := bnd H
      refine seq_g0 rfl rfl h4 (stp_call (k_gateref2_in h1.Fall 1 100 r6 h7) ⟨.inl rfl, .inl rfl, .inl rfl, trivial⟩) ?_
      refine seq_g0 rfl rfl h4 (stp_not rfl) ?_
      refine seq_run0 (stp_pick_f rfl (bFF h5) rfl) ?_
      exact ⟨!r6, H, ⟨rfl, trivial⟩, trivial⟩
    · have h8 := un4 h4
      replace H := ift h8 H
      refine seq_skip rfl rfl h4 ?_
      refine seq_skip rfl rfl h4 ?_
      refine seq_skip rfl rfl h4 ?_
      refine seq_skip rfl rfl h4 ?_
      refine seq_run0 (stp_pick_t rfl (bTT h8) rfl) ?_
      exact ⟨true, H, ⟨rfl, trivial⟩, trivial⟩
  · rintro v9 H
    replace H : gateref2_HealthFault_J1 v9 = some r := H
    unfold gateref2_HealthFault_J1 at H
    refine awp_cond _ rfl (fun h10 => ?_) (fun h10 => ?_)
    · replace H := ift h10 H
      refine awp_seq ?_
      refine awp_plain hN rfl ?_
      refine seq_run0 (stp_assign (.dat _) rfl) ?_
      refine awp_ret ?_
      cases H
      exact ⟨trivial, .inl rfl, trivial⟩
    · replace H := iff_ h10 H
      refine awp_skip ?_
      refine awp_seq ?_
      refine awp_plain hN rfl ?_
      refine seq_run0 (stp_assign (.dat _) rfl) ?_
      refine awp_ret ?_
      cases H
      exact ⟨trivial, .inl rfl, trivial⟩
theorem k_gatelaw2_when (is1 : Bool) (e2 : Int) (r : (Int)) (H : m_gatelaw2_when is1 e2 = some r) : Fn Try.prog 61 [vbool is1, vint e2] (resOf [vint r]) := by
  refine ⟨by kernel_rfl, pure_of (us := [vint r]) Try.func61 rfl rfl rfl rfl fun X hN => ?_⟩
  unfold m_gatelaw2_when at H
  refine awp_seq ?_
  refine awp_plain hN rfl ?_
  refine seq_run0 (stp_assign (.dat _) rfl) ?_
  refine awp_seq ?_
  refine awp_seq ?_
  refine awp_plain hN rfl ?_
  refine seq_run0 (stp_move (.dat _) rfl) ?_
  refine awp_cond _ rfl (fun h3 => ?_) (fun h3 => ?_)
  · replace H := ift h3 H
    refine awp_seq ?_
    refine awp_plain hN rfl ?_
    refine seq_run0 (stp_move (.dat _) rfl) ?_
    refine seq_run0 (stp_assign (.dat _) rfl) ?_
    refine awp_ret ?_
    cases H
    exact ⟨trivial, .inl rfl, trivial⟩
  · replace H := iff_ h3 H
    refine awp_skip ?_
    refine awp_seq ?_
    refine awp_plain hN rfl ?_
    refine seq_run0 (stp_assign (.dat _) rfl) ?_
    refine awp_ret ?_
    cases H
    exact ⟨trivial, .inl rfl, trivial⟩
theorem k_gatelaw2_momentFault (v1 : Int) (r : (Int)) (H : m_gatelaw2_momentFault v1 = some r) : Fn Try.prog 43 [vint v1] (resOf [vint r]) := by
  refine ⟨by kernel_rfl, pure_of (us := [vint r]) Try.func43 rfl rfl rfl rfl fun X hN => ?_⟩
  unfold m_gatelaw2_momentFault at H
  refine awp_seq ?_
  refine awp_plain hN rfl ?_
  refine seq_run0 (stp_assign (.dat _) rfl) ?_
  refine awp_seq ?_
  refine awp_plain hN rfl ?_
  refine seq_run0 (stp_move (.dat _) rfl) ?_
  obtain ⟨r2, h3, H⟩ := bnd H
  refine seq_run0 (stp_call (k_gateref2_Moment v1 r2 h3) ⟨.inl rfl, trivial⟩) ?_
  refine seq_run0 (stp_not rfl) ?_
  obtain ⟨r4, h5, H⟩ := bnd H
  refine seq_run0 (stp_call (k_gatelaw2_when (!r2) 1 r4 h5) ⟨.inl rfl, .inl rfl, trivial⟩) ?_
  refine seq_run0 (stp_assign (.dat _) rfl) ?_
  refine awp_ret ?_
  cases H
  exact ⟨trivial, .inl rfl, trivial⟩
theorem k_gateref2_TurnsOf (v1 : (List S_api_Instance)) (v2 : S_api_Health) (v3 : (List S_api_Probe)) (r : ((List S_api_Turn))) (H : m_gateref2_TurnsOf v1 v2 v3 = some r) : Fn Try.prog 44 [vlst (List.map C_api_Instance v1), vagg (C_api_Health v2), vlst (List.map C_api_Probe v3)] (resOf [vlst (List.map C_api_Turn r)]) := by
  refine ⟨by kernel_rfl, pure_of (us := [vlst (List.map C_api_Turn r)]) Try.func44 rfl rfl rfl rfl fun X hN => ?_⟩
  unfold m_gateref2_TurnsOf at H
  refine awp_seq ?_
  refine awp_plain hN rfl ?_
  refine seq_run2 (stp_boxA 1 rfl) rfl ?_
  refine seq_run0 (stp_assign (.dat _) rfl) ?_
  refine awp_seq ?_
  refine awp_plain hN rfl ?_
  refine seq_run0 (stp_move (.dat _) rfl) ?_
  refine seq_run0 (t_len tyU68 rfl) ?_
  obtain ⟨h4, H⟩ := gif H
  refine seq_run2 (t_make (C := C_p_api_Turn) 2 none tyL144 tyZ145 rfl rfl rfl rfl h4 rfl) rfl ?_
  refine seq_run0 (stp_assign (.row _ _) rfl) ?_
  refine awp_seq ?_
  refine awp_seq ?_
  refine awp_plain hN rfl ?_
  refine seq_run0 (stp_move (.dat _) rfl) ?_
  refine seq_run0 (t_len tyU48 rfl) ?_
  refine seq_run0 (stp_move (.dat _) rfl) ?_
  refine awp_block ?_
  obtain ⟨h8, H⟩ := gif H
  refine awp_forL (fun (k6 : Nat) (s : (List (Option S_api_Turn))) => [(2, .dat (vlst (List.map C_api_Probe v3))), (4, .ptr 1 0), (7, .row 2 s.length), (20, .dat (vlst (List.map C_api_Instance v1))), (21, .dat (vint (v1.length : Int))), (22, .dat (vint (k6 : Int)))]) (fun (k6 : Nat) (s : (List (Option S_api_Turn))) => [(1, .box none 66 [.dat (vint v2.Rise), .dat (vint v2.Fall)]), (2, .row 145 1 (List.map C_p_api_Turn s))]) (List.replicate v3.length none) H ⟨rfl, rfl, congrArg (Slot.row 2) (by simp), rfl, rfl, rfl, trivial⟩ ⟨rfl, rfl, trivial⟩ (fun _ _ => rfl) ?_ ?_
  · rintro l5 H
    replace H : gateref2_TurnsOf_E1 l5 = some r := H
    unfold gateref2_TurnsOf_E1 at H
    refine awp_seq ?_
    refine awp_plain hN rfl ?_
    refine seq_run0 (stp_lss rfl rfl) ?_
    refine awp_seq ?_
    refine awp_cond _ rfl (fun h => (lt_t h).elim) (fun h => ?_)
    refine awp_exit ?_
    refine awp_seq ?_
    refine awp_plain hN rfl ?_
    refine seq_run0 (stp_assign (.dat _) rfl) ?_
    refine awp_seq ?_
    refine awp_seq ?_
    refine awp_plain hN rfl ?_
    refine seq_run0 (stp_move (.row _ _) rfl) ?_
    refine seq_run1 (t_lenR tyU144 rfl rfl) rfl ?_
    refine seq_run0 (stp_move (.dat _) rfl) ?_
    refine awp_block ?_
    refine awp_nilrow 14 3 84 3 rfl rfl rfl ?_
    obtain ⟨h13, H⟩ := gif H
    refine awp_rng (fun (k11 : Nat) (s : (List S_api_Turn)) => [(14, .row 3 s.length), (75, .row 2 l5.length), (76, .dat (vint (l5.length : Int))), (77, .dat (vint (k11 : Int)))]) (fun (k11 : Nat) (s : (List S_api_Turn)) => [(2, .row 145 1 (List.map C_p_api_Turn l5)), (3, .row 84 3 (List.map C_api_Turn s))]) [] H ⟨congrArg (Slot.row 3) (by simp), rfl, rfl, rfl, trivial⟩ ⟨rfl, rfl, trivial⟩ (fun _ _ => rfl) ?_ ?_
    · rintro l10 H
      replace H : gateref2_TurnsOf_E2 l10 = some r := H
      unfold gateref2_TurnsOf_E2 at H
      refine awp_seq ?_
      refine awp_plain hN rfl ?_
      refine seq_run0 (stp_lss rfl rfl) ?_
      refine awp_seq ?_
      refine awp_cond _ rfl (fun h => (lt_t h).elim) (fun h => ?_)
      refine awp_exit ?_
      refine awp_seq ?_
      refine awp_plain hN rfl ?_
      refine seq_run0 (stp_move (.row _ _) rfl) ?_
      refine seq_run0 (stp_assign (.row _ _) rfl) ?_
      refine awp_ret ?_
      cases H
      exact ⟨trivial, t_slotv rfl rfl, trivial⟩
    · rintro k11 l10 q12 h14 H hq12
      replace H : gateref2_TurnsOf_L2 l5 k11 l10 = some q12 := H
      unfold gateref2_TurnsOf_L2 at H
      refine awp_seq ?_
      refine awp_plain hN rfl ?_
      refine seq_run0 (stp_lss rfl rfl) ?_
      refine awp_seq ?_
      refine awp_cond _ rfl (fun h => ?_) (fun h => (lt_f h14 h).elim)
      refine awp_skip ?_
      refine awp_joinE (ι := (List S_api_Turn)) (fun i => [(14, .row 3 i.length), (75, .row 2 l5.length), (76, .dat (vint (l5.length : Int))), (77, .dat (vint (k11 : Int)))]) (fun i => [(2, .row 145 1 (List.map C_p_api_Turn l5)), (3, .row 84 3 (List.map C_api_Turn i))]) (fun i => gateref2_TurnsOf_J3 i = some q12) (fun i => rfl) ?_ ?_
      · skip
        refine awp_block ?_
        refine awp_seq ?_
        refine awp_plain hN rfl ?_
        obtain ⟨x15, h16, H⟩ := bnd H
        refine seq_run1 (t_idxR tyE144 rfl rfl rfl h16) rfl ?_
        refine seq_run1 (t_loadR1 tyS145 rfl rfl h16 rfl) rfl ?_
        refine seq_run0 (stp_assign (.dat _) rfl) ?_
        refine awp_seq ?_
        refine awp_plain hN rfl ?_
        refine seq_run0 (stp_move (.dat _) rfl) ?_
        refine seq_run0 (stp_neqO (C := C_api_Turn) tyU145 rfl) ?_
        refine awp_cond _ rfl (fun h17 => ?_) (fun h17 => ?_)
        · replace H := ift h17 H
          refine awp_plain hN rfl ?_
          refine seq_run0 (stp_move (.row _ _) rfl) ?_
          refine seq_run0 (stp_move (.dat _) rfl) ?_
          obtain ⟨x18, h19, H⟩ := bnd H
          refine seq_run0 (stp_nilO h19 rfl) ?_
          refine seq_run0 (stp_loadEA tyS84 rfl rfl rfl) ?_
          refine seq_run0 (stp_dat (u' := vlst (List.map C_api_Turn [x18])) (stp_lit [_] tyL70 ⟨rfl, .inr rfl, rfl, trivial⟩ rfl rfl) rfl) ?_
          obtain ⟨h20, H⟩ := gif H
          refine seq_run2 (t_app tyL70 (fun _ => rfl) rfl rfl rfl ⟨by simp, by simpa using h20⟩ rfl) rfl ?_
          refine seq_run0 (stp_assign (.row _ _) rfl) ?_
          exact ⟨(l10 ++ [x18]), H, ⟨rfl, rfl, rfl, rfl, trivial⟩, ⟨rfl, rfl, trivial⟩⟩
        · replace H := iff_ h17 H
          refine awp_skip ?_
          exact ⟨l10, H, ⟨rfl, rfl, rfl, rfl, trivial⟩, ⟨rfl, rfl, trivial⟩⟩
      · rintro v21 H
        replace H : gateref2_TurnsOf_J3 v21 = some q12 := H
        unfold gateref2_TurnsOf_J3 at H
        refine awp_plain hN rfl ?_
        refine seq_run0 (stp_add rfl rfl (by omega)) ?_
        refine seq_run0 (stp_move (.dat _) rfl) ?_
        exact ⟨_, backl H, ⟨rfl, rfl, rfl, rfl, trivial⟩, ⟨rfl, rfl, trivial⟩⟩
  · rintro k6 x9 l5 q7 h22 h23 H hq7
    replace H : gateref2_TurnsOf_L1 v2 v3 k6 x9 l5 = some q7 := H
    unfold gateref2_TurnsOf_L1 at H
    refine awp_seq ?_
    refine awp_plain hN rfl ?_
    refine seq_run0 (stp_lss rfl rfl) ?_
    refine awp_seq ?_
    refine awp_cond _ rfl (fun h => ?_) (fun h => (lt_f h22 h).elim)
    refine awp_skip ?_
    refine awp_seq ?_
    refine awp_block ?_
    refine awp_seq ?_
    refine awp_plain hN rfl ?_
    refine seq_run0 (t_idx tyE48 (fun _ => rfl) rfl rfl h23) ?_
    refine seq_run0 (stp_loadEA tyS114 rfl (map_at h23) rfl) ?_
    refine seq_run2 (stp_alloc 4 tyZ114 rfl) rfl ?_
    refine seq_run2 (stp_storeW tyS114 rfl rfl rfl rfl) rfl ?_
    refine awp_seq ?_
    refine awp_plain hN rfl ?_
    refine seq_run0 (stp_assign (.dat _) rfl) ?_
    refine seq_run0 (stp_assign (.dat _) rfl) ?_
    refine awp_seq ?_
    refine awp_plain hN rfl ?_
    refine seq_run0 (stp_move (.dat _) rfl) ?_
    refine seq_run0 (t_len tyU68 rfl) ?_
    refine seq_run0 (stp_move (.dat _) rfl) ?_
    refine awp_block ?_
    obtain ⟨h29, H⟩ := gif H
    refine awp_forL (fun (k27 : Nat) (s : Bool × Int × (List (Option S_api_Turn))) => [(2, .dat (vlst (List.map C_api_Probe v3))), (4, .ptr 1 0), (7, .row 2 s.2.2.length), (9, .ptr 4 0), (10, .dat (vbool s.1)), (11, .dat (vint s.2.1)), (20, .dat (vlst (List.map C_api_Instance v1))), (21, .dat (vint (v1.length : Int))), (22, .dat (vint (k6 : Int))), (26, .dat (vlst (List.map C_api_Probe v3))), (27, .dat (vint (v3.length : Int))), (28, .dat (vint (k27 : Int)))]) (fun (k27 : Nat) (s : Bool × Int × (List (Option S_api_Turn))) => [(1, .box none 66 [.dat (vint v2.Rise), .dat (vint v2.Fall)]), (2, .row 145 1 (List.map C_p_api_Turn s.2.2)), (4, .box none 114 [.dat (vstr x9.Key), .dat (vint x9.Weight)])]) (true, 0, l5) H ⟨rfl, rfl, rfl, rfl, rfl, rfl, rfl, rfl, rfl, rfl, rfl, rfl, trivial⟩ ⟨rfl, rfl, rfl, trivial⟩ (fun _ _ => rfl) ?_ ?_
    · rintro ⟨v24, v25, l26⟩ H
      replace H : gateref2_TurnsOf_E4 v24 v25 l26 = some q7 := H
      unfold gateref2_TurnsOf_E4 at H
      refine awp_seq ?_
      refine awp_plain hN rfl ?_
      refine seq_run0 (stp_lss rfl rfl) ?_
      refine awp_seq ?_
      refine awp_cond _ rfl (fun h => (lt_t h).elim) (fun h => ?_)
      refine awp_exit ?_
      refine awp_plain hN rfl ?_
      refine seq_run0 (stp_add rfl rfl (by omega)) ?_
      refine seq_run0 (stp_move (.dat _) rfl) ?_
      exact ⟨_, backl H, ⟨rfl, rfl, rfl, rfl, rfl, rfl, trivial⟩, ⟨rfl, rfl, trivial⟩⟩
    · rintro k27 x30 ⟨v24, v25, l26⟩ q28 h31 h32 H hq28
      replace H : gateref2_TurnsOf_L4 v2 x9 k27 x30 v24 v25 l26 = some q28 := H
      unfold gateref2_TurnsOf_L4 at H
      refine awp_seq ?_
      refine awp_plain hN rfl ?_
      refine seq_run0 (stp_lss rfl rfl) ?_
      refine awp_seq ?_
      refine awp_cond _ rfl (fun h => ?_) (fun h => (lt_f h31 h).elim)
      refine awp_skip ?_
      refine awp_joinE (ι := Bool × Int × (List (Option S_api_Turn))) (fun i => [(2, .dat (vlst (List.map C_api_Probe v3))), (4, .ptr 1 0), (7, .row 2 i.2.2.length), (9, .ptr 4 0), (10, .dat (vbool i.1)), (11, .dat (vint i.2.1)), (20, .dat (vlst (List.map C_api_Instance v1))), (21, .dat (vint (v1.length : Int))), (22, .dat (vint (k6 : Int))), (26, .dat (vlst (List.map C_api_Probe v3))), (27, .dat (vint (v3.length : Int))), (28, .dat (vint (k27 : Int)))]) (fun i => [(1, .box none 66 [.dat (vint v2.Rise), .dat (vint v2.Fall)]), (2, .row 145 1 (List.map C_p_api_Turn i.2.2)), (4, .box none 114 [.dat (vstr x9.Key), .dat (vint x9.Weight)])]) (fun i => gateref2_TurnsOf_J5 i.1 i.2.1 i.2.2 = some q28) (fun i => rfl) ?_ ?_
      · skip
        refine awp_block ?_
        refine awp_seq ?_
        refine awp_plain hN rfl ?_
        refine seq_run0 (stp_move (.dat _) rfl) ?_
        refine seq_run0 (t_idx tyE68 (fun _ => rfl) rfl rfl h32) ?_
        refine seq_run0 (stp_loadEA tyS136 rfl (map_at h32) rfl) ?_
        refine seq_run2 (stp_alloc 5 tyZ136 rfl) rfl ?_
        refine seq_run0 (stp_assign (.dat _) rfl) ?_
        refine seq_run2 (stp_storeW tyS136 rfl rfl rfl rfl) rfl ?_
        refine awp_seq ?_
        refine awp_seq ?_
        refine awp_plain hN rfl ?_
        refine seq_run0 (stp_fldP tyF136_1 rfl) ?_
        refine seq_run1 (stp_load1 tyS9 rfl rfl) rfl ?_
        refine seq_run0 (stp_fldP tyF114_0 rfl) ?_
        refine seq_run1 (stp_load1 tyS9 rfl rfl) rfl ?_
        refine seq_run0 (stp_sneq rfl rfl) ?_
        refine awp_cond _ rfl (fun h33 => ?_) (fun h33 => ?_)
        · replace H := ift h33 H
          refine awp_exit ?_
          exact ⟨(v24, v25, l26), H, ⟨rfl, rfl, rfl, rfl, rfl, rfl, rfl, rfl, rfl, rfl, rfl, rfl, trivial⟩, ⟨rfl, rfl, rfl, trivial⟩⟩
        · replace H := iff_ h33 H
          refine awp_skip ?_
          refine awp_seq ?_
          refine awp_seq ?_
          refine awp_plain hN rfl ?_
          refine seq_run0 (stp_fldP tyF136_2 rfl) ?_
          refine seq_run1 (stp_load1 tyS4 rfl rfl) rfl ?_
          refine seq_run0 (stp_move (.dat _) rfl) ?_
          refine seq_run0 (stp_beql tyU4 rfl rfl) ?_
          refine awp_cond _ rfl (fun h34 => ?_) (fun h34 => ?_)
          · replace H := ift h34 H
            refine awp_seq ?_
            refine awp_plain hN rfl ?_
            refine seq_run0 (stp_assign (.dat _) rfl) ?_
            refine awp_exit ?_
            exact ⟨(v24, 0, l26), H, ⟨rfl, rfl, rfl, rfl, rfl, rfl, rfl, rfl, rfl, rfl, rfl, rfl, trivial⟩, ⟨rfl, rfl, rfl, trivial⟩⟩
          · replace H := iff_ h34 H
            refine awp_skip ?_
            refine awp_seq ?_
            refine awp_plain hN rfl ?_
            refine seq_run0 (stp_move (.dat _) rfl) ?_
            refine seq_run0 (stp_wrap _ rfl rfl (.inl ⟨rfl, rfl⟩)) ?_
            refine seq_run0 (stp_assign (.dat _) rfl) ?_
            refine awp_seq ?_
            refine awp_plain hN rfl ?_
            refine seq_run0 (stp_move (.dat _) rfl) ?_
            refine seq_run0 (stp_move (.dat _) rfl) ?_
            refine seq_aT rfl rfl (fun hc => stp_move (.dat _) rfl) ?_
            refine seq_aT rfl rfl (fun hc => stp_fldP tyF66_1 rfl) ?_
            refine seq_arT rfl rfl (fun hc => stp_load1 tyS3 (cnd (c := v24) hc) rfl) rfl anti_p ?_
            refine seq_aT rfl rfl (fun hc => stp_eql (cnd (c := v24) hc) (cnd (c := v24) hc)) ?_
            refine seq_run0 (stp_pick_and rfl (fun hb => (cnd (c := v24) hb)) rfl) ?_
            refine seq_run0 (stp_move (.dat _) rfl) ?_
            refine seq_aF rfl rfl (fun hc => stp_move (.dat _) rfl) ?_
            refine seq_aF rfl rfl (fun hc => stp_not (cnd (c := (!(v24 && (decide ((wr (v25 + 1)) = v2.Fall))))) hc)) ?_
            refine seq_aF rfl rfl (fun hc => stp_move (.dat _) (cnd (c := (!(v24 && (decide ((wr (v25 + 1)) = v2.Fall))))) hc)) ?_
            refine seq_bT rfl rfl (fun hc => stp_move (.dat _) rfl) ?_
            refine seq_bT rfl rfl (fun hc => stp_fldP tyF66_0 rfl) ?_
            refine seq_brT rfl rfl (fun hc => stp_load1 tyS3 (cnd (c := ((!(v24 && (decide ((wr (v25 + 1)) = v2.Fall)))) && (!v24))) hc) rfl) rfl anti_p ?_
            refine seq_bT rfl rfl (fun hc => stp_eql (cnd (c := ((!(v24 && (decide ((wr (v25 + 1)) = v2.Fall)))) && (!v24))) hc) (cnd (c := ((!(v24 && (decide ((wr (v25 + 1)) = v2.Fall)))) && (!v24))) hc)) ?_
            refine seq_aF rfl rfl (fun hc => stp_pick_and (cnd (c := (!(v24 && (decide ((wr (v25 + 1)) = v2.Fall))))) hc) (fun hb => (cnd (c := ((!(v24 && (decide ((wr (v25 + 1)) = v2.Fall)))) && (!v24))) (andI hc hb))) rfl) ?_
            refine seq_run0 (stp_pick_or rfl rfl (fun hb => (cnd (c := (!(v24 && (decide ((wr (v25 + 1)) = v2.Fall))))) (notI hb)))) ?_
            refine awp_cond _ rfl (fun h35 => ?_) (fun h35 => ?_)
            · replace H := ift h35 H
              refine awp_seq ?_
              refine awp_plain hN rfl ?_
              refine seq_run0 (stp_move (.dat _) rfl) ?_
              refine seq_run0 (stp_not rfl) ?_
              refine seq_run0 (stp_assign (.dat _) rfl) ?_
              refine seq_run0 (stp_assign (.dat _) rfl) ?_
              refine awp_plain hN rfl ?_
              refine seq_run0 (stp_move (.row _ _) rfl) ?_
              refine seq_run0 (stp_move (.dat _) rfl) ?_
              refine seq_run0 (stp_fldP tyF136_0 rfl) ?_
              refine seq_run1 (stp_load1 tyS3 rfl rfl) rfl ?_
              refine seq_run0 (stp_fldP tyF114_0 rfl) ?_
              refine seq_run1 (stp_load1 tyS9 rfl rfl) rfl ?_
              refine seq_run0 (stp_move (.dat _) rfl) ?_
              refine seq_run0 (stp_dat (u' := vagg (C_api_Turn (S_api_Turn.mk x30.At x9.Key (!v24)))) (stp_build [(0, [vint x30.At]), (1, [vstr x9.Key]), (2, [vbool (!v24)])] tyZ84 tyP84 rfl ⟨rfl, .inl ⟨_, rfl, rfl, rfl⟩, rfl, rfl, .inl ⟨_, rfl, rfl, rfl⟩, rfl, rfl, .inl ⟨_, rfl, rfl, rfl⟩, rfl, trivial⟩) rfl) ?_
              refine seq_run0 (stp_dat (u' := vopt C_api_Turn (some (S_api_Turn.mk x30.At x9.Key (!v24)))) (stp_boxD rfl) rfl) ?_
              obtain ⟨x36, h37, H⟩ := bnd H
              refine seq_run1 (t_idxR tyE144 rfl rfl rfl h37) rfl ?_
              refine seq_run2 (t_storeR (some (S_api_Turn.mk x30.At x9.Key (!v24))) tyS145 rfl rfl rfl rfl h37 rfl rfl) rfl ?_
              exact ⟨(!v24, 0, (l26.set k27 (some (S_api_Turn.mk x30.At x9.Key (!v24))))), H, ⟨rfl, rfl, congrArg (Slot.row 2) (by simp), rfl, rfl, rfl, rfl, rfl, rfl, rfl, rfl, rfl, trivial⟩, ⟨rfl, rfl, rfl, trivial⟩⟩
            · replace H := iff_ h35 H
              refine awp_skip ?_
              exact ⟨(v24, wr (v25 + 1), l26), H, ⟨rfl, rfl, rfl, rfl, rfl, rfl, rfl, rfl, rfl, rfl, rfl, rfl, trivial⟩, ⟨rfl, rfl, rfl, trivial⟩⟩
      · rintro ⟨v38, v39, v40⟩ H
        replace H : gateref2_TurnsOf_J5 v38 v39 v40 = some q28 := H
        unfold gateref2_TurnsOf_J5 at H
        refine awp_plain hN rfl ?_
        refine seq_run0 (stp_add rfl rfl (by omega)) ?_
        refine seq_run0 (stp_move (.dat _) rfl) ?_
        exact ⟨_, backl H, ⟨rfl, rfl, rfl, rfl, rfl, rfl, rfl, rfl, rfl, rfl, rfl, rfl, trivial⟩, ⟨rfl, rfl, rfl, trivial⟩⟩
theorem k_gateref2_UpOf (l1 : (List S_api_Instance)) (h2 : S_api_Health) (p3 : (List S_api_Probe)) (v4 : Int) (r : ((List Bs))) (H : m_gateref2_UpOf l1 h2 p3 v4 = some r) : Fn Try.prog 45 [vlst (List.map C_api_Instance l1), vagg (C_api_Health h2), vlst (List.map C_api_Probe p3), vint v4] (resOf [vlst (List.map C_string r)]) := by
  refine ⟨by kernel_rfl, pure_of (us := [vlst (List.map C_string r)]) Try.func45 rfl rfl rfl rfl fun X hN => ?_⟩
  unfold m_gateref2_UpOf at H
  refine awp_seq ?_
  refine awp_plain hN rfl ?_
  refine seq_run2 (stp_boxA 1 rfl) rfl ?_
  refine seq_run0 (stp_assign (.dat _) rfl) ?_
  refine awp_seq ?_
  refine awp_plain hN rfl ?_
  refine seq_run2 (stp_mkB 2 tyM128) rfl ?_
  refine seq_run0 (stp_assign (.mp _) rfl) ?_
  refine awp_seq ?_
  refine awp_seq ?_
  refine awp_plain hN rfl ?_
  refine seq_run0 (stp_move (.dat _) rfl) ?_
  refine seq_run1 (stp_loadA tyS66 rfl rfl rfl) rfl ?_
  refine seq_run0 (stp_move (.dat _) rfl) ?_
  obtain ⟨r5, h6, H⟩ := bnd H
  refine seq_run0 (stp_call (k_gateref2_TurnsOf l1 h2 p3 r5 h6) ⟨.inl rfl, .inl rfl, .inl rfl, trivial⟩) ?_
  refine seq_run0 (t_len tyU70 rfl) ?_
  refine seq_run0 (stp_move (.dat _) rfl) ?_
  refine awp_block ?_
  obtain ⟨h11, H⟩ := gif H
  refine awp_forL (fun (k9 : Nat) (s : (Bs → Bool) × Nat) => [(0, .dat (vlst (List.map C_api_Instance l1))), (3, .dat (vint v4)), (9, .mp 2), (19, .dat (vlst (List.map C_api_Turn r5))), (20, .dat (vint (r5.length : Int))), (21, .dat (vint (k9 : Int)))]) (fun (k9 : Nat) (s : (Bs → Bool) × Nat) => [(2, .opq none (mapBO Try.prog 9 4 s.2 s.1))]) ((fun _ => false), 0) H ⟨rfl, rfl, rfl, rfl, rfl, rfl, trivial⟩ ⟨rfl, trivial⟩ (fun _ _ => rfl) ?_ ?_
  · rintro ⟨m7, m8⟩ H
    replace H : gateref2_UpOf_E1 l1 m7 m8 = some r := H
    unfold gateref2_UpOf_E1 at H
    refine awp_seq ?_
    refine awp_plain hN rfl ?_
    refine seq_run0 (stp_lss rfl rfl) ?_
    refine awp_seq ?_
    refine awp_cond _ rfl (fun h => (lt_t h).elim) (fun h => ?_)
    refine awp_exit ?_
    refine awp_seq ?_
    refine awp_plain hN rfl ?_
    refine seq_run0 (stp_assign (.dat _) rfl) ?_
    refine awp_seq ?_
    refine awp_seq ?_
    refine awp_plain hN rfl ?_
    refine seq_run0 (stp_move (.dat _) rfl) ?_
    refine seq_run0 (t_len tyU48 rfl) ?_
    refine seq_run0 (stp_move (.dat _) rfl) ?_
    refine awp_block ?_
    refine awp_nilrow 12 3 9 1 rfl rfl rfl ?_
    obtain ⟨h16, H⟩ := gif H
    refine awp_forL (fun (k14 : Nat) (s : (List Bs)) => [(9, .mp 2), (12, .row 3 s.length), (36, .dat (vlst (List.map C_api_Instance l1))), (37, .dat (vint (l1.length : Int))), (38, .dat (vint (k14 : Int)))]) (fun (k14 : Nat) (s : (List Bs)) => [(2, .opq none (mapBO Try.prog 9 4 m8 m7)), (3, .row 9 1 (List.map C_string s))]) [] H ⟨rfl, congrArg (Slot.row 3) (by simp), rfl, rfl, rfl, trivial⟩ ⟨rfl, rfl, trivial⟩ (fun _ _ => rfl) ?_ ?_
    · rintro l13 H
      replace H : gateref2_UpOf_E2 l13 = some r := H
      unfold gateref2_UpOf_E2 at H
      refine awp_seq ?_
      refine awp_plain hN rfl ?_
      refine seq_run0 (stp_lss rfl rfl) ?_
      refine awp_seq ?_
      refine awp_cond _ rfl (fun h => (lt_t h).elim) (fun h => ?_)
      refine awp_exit ?_
      refine awp_seq ?_
      refine awp_plain hN rfl ?_
      refine seq_run0 (stp_move (.row _ _) rfl) ?_
      refine seq_run0 (stp_assign (.row _ _) rfl) ?_
      refine awp_ret ?_
      cases H
      exact ⟨trivial, t_slotv rfl rfl, trivial⟩
    · rintro k14 x17 l13 q15 h18 h19 H hq15
      replace H : gateref2_UpOf_L2 m7 k14 x17 l13 = some q15 := H
      unfold gateref2_UpOf_L2 at H
      refine awp_seq ?_
      refine awp_plain hN rfl ?_
      refine seq_run0 (stp_lss rfl rfl) ?_
      refine awp_seq ?_
      refine awp_cond _ rfl (fun h => ?_) (fun h => (lt_f h18 h).elim)
      refine awp_skip ?_
      refine awp_joinE (ι := (List Bs)) (fun i => [(9, .mp 2), (12, .row 3 i.length), (36, .dat (vlst (List.map C_api_Instance l1))), (37, .dat (vint (l1.length : Int))), (38, .dat (vint (k14 : Int)))]) (fun i => [(2, .opq none (mapBO Try.prog 9 4 m8 m7)), (3, .row 9 1 (List.map C_string i))]) (fun i => gateref2_UpOf_J3 i = some q15) (fun i => rfl) ?_ ?_
      · skip
        refine awp_block ?_
        refine awp_seq ?_
        refine awp_plain hN rfl ?_
        refine seq_run0 (t_idx tyE48 (fun _ => rfl) rfl rfl h19) ?_
        refine seq_run0 (stp_loadEA tyS114 rfl (map_at h19) rfl) ?_
        refine seq_run2 (stp_alloc 4 tyZ114 rfl) rfl ?_
        refine seq_run2 (stp_storeW tyS114 rfl rfl rfl rfl) rfl ?_
        refine awp_seq ?_
        refine awp_plain hN rfl ?_
        refine seq_run0 (stp_move (.mp _) rfl) ?_
        refine seq_run0 (stp_fldP tyF114_0 rfl) ?_
        refine seq_run1 (stp_load1 tyS9 rfl rfl) rfl ?_
        obtain ⟨h20, H⟩ := gif H
        refine seq_run1 (stp_lookB tyM128 rfl rfl h20) rfl ?_
        refine seq_run0 (stp_not rfl) ?_
        refine awp_cond _ rfl (fun h21 => ?_) (fun h21 => ?_)
        · replace H := ift h21 H
          refine awp_plain hN rfl ?_
          refine seq_run0 (stp_move (.row _ _) rfl) ?_
          refine seq_run0 (stp_fldP tyF114_0 rfl) ?_
          refine seq_run1 (stp_load1 tyS9 rfl rfl) rfl ?_
          refine seq_run0 (stp_dat (u' := vlst (List.map C_string [x17.Key])) (stp_lit [[_]] tyL73 ⟨rfl, .inl ⟨_, rfl, rfl, rfl⟩, rfl, trivial⟩ rfl rfl) rfl) ?_
          obtain ⟨h22, H⟩ := gif H
          refine seq_run2 (t_app tyL73 (fun _ => rfl) rfl rfl rfl ⟨by simp, by simpa using h22⟩ rfl) rfl ?_
          refine seq_run0 (stp_assign (.row _ _) rfl) ?_
          exact ⟨(l13 ++ [x17.Key]), H, ⟨rfl, rfl, rfl, rfl, rfl, trivial⟩, ⟨rfl, rfl, trivial⟩⟩
        · replace H := iff_ h21 H
          refine awp_skip ?_
          exact ⟨l13, H, ⟨rfl, rfl, rfl, rfl, rfl, trivial⟩, ⟨rfl, rfl, trivial⟩⟩
      · rintro out23 H
        replace H : gateref2_UpOf_J3 out23 = some q15 := H
        unfold gateref2_UpOf_J3 at H
        refine awp_plain hN rfl ?_
        refine seq_run0 (stp_add rfl rfl (by omega)) ?_
        refine seq_run0 (stp_move (.dat _) rfl) ?_
        exact ⟨_, backl H, ⟨rfl, rfl, rfl, rfl, rfl, trivial⟩, ⟨rfl, rfl, trivial⟩⟩
  · rintro k9 x12 ⟨m7, m8⟩ q10 h24 h25 H hq10
    replace H : gateref2_UpOf_L1 v4 k9 x12 m7 m8 = some q10 := H
    unfold gateref2_UpOf_L1 at H
    refine awp_seq ?_
    refine awp_plain hN rfl ?_
    refine seq_run0 (stp_lss rfl rfl) ?_
    refine awp_seq ?_
    refine awp_cond _ rfl (fun h => ?_) (fun h => (lt_f h24 h).elim)
    refine awp_skip ?_
    refine awp_joinE (ι := (Bs → Bool) × Nat) (fun i => [(0, .dat (vlst (List.map C_api_Instance l1))), (3, .dat (vint v4)), (9, .mp 2), (19, .dat (vlst (List.map C_api_Turn r5))), (20, .dat (vint (r5.length : Int))), (21, .dat (vint (k9 : Int)))]) (fun i => [(2, .opq none (mapBO Try.prog 9 4 i.2 i.1))]) (fun i => gateref2_UpOf_J4 i.1 i.2 = some q10) (fun i => rfl) ?_ ?_
    · skip
      refine awp_block ?_
      refine awp_seq ?_
      refine awp_plain hN rfl ?_
      refine seq_run0 (t_idx tyE70 (fun _ => rfl) rfl rfl h25) ?_
      refine seq_run0 (stp_loadEA tyS84 rfl (map_at h25) rfl) ?_
      refine seq_run2 (stp_alloc 5 tyZ84 rfl) rfl ?_
      refine seq_run2 (stp_storeW tyS84 rfl rfl rfl rfl) rfl ?_
      refine awp_seq ?_
      refine awp_plain hN rfl ?_
      refine seq_run0 (stp_fldP tyF84_0 rfl) ?_
      refine seq_run1 (stp_load1 tyS3 rfl rfl) rfl ?_
      refine seq_run0 (stp_move (.dat _) rfl) ?_
      refine seq_run0 (stp_leq rfl rfl) ?_
      refine awp_cond _ rfl (fun h26 => ?_) (fun h26 => ?_)
      · replace H := ift h26 H
        refine awp_plain hN rfl ?_
        refine seq_run0 (stp_move (.mp _) rfl) ?_
        refine seq_run0 (stp_fldP tyF84_1 rfl) ?_
        refine seq_run1 (stp_load1 tyS9 rfl rfl) rfl ?_
        refine seq_run0 (stp_fldP tyF84_2 rfl) ?_
        refine seq_run1 (stp_load1 tyS4 rfl rfl) rfl ?_
        refine seq_run0 (stp_not rfl) ?_
        obtain ⟨h27, H⟩ := gif H
        refine seq_run2 (stp_putB tyM128 rfl rfl rfl h27.1 h27.2) rfl ?_
        exact ⟨((upm m7 x12.Instance (!x12.Up)), (m8 + 1)), H, ⟨rfl, rfl, rfl, rfl, rfl, rfl, trivial⟩, ⟨rfl, trivial⟩⟩
      · replace H := iff_ h26 H
        refine awp_skip ?_
        exact ⟨(m7, m8), H, ⟨rfl, rfl, rfl, rfl, rfl, rfl, trivial⟩, ⟨rfl, trivial⟩⟩
    · rintro ⟨m28, m29⟩ H
      replace H : gateref2_UpOf_J4 m28 m29 = some q10 := H
      unfold gateref2_UpOf_J4 at H
      refine awp_plain hN rfl ?_
      refine seq_run0 (stp_add rfl rfl (by omega)) ?_
      refine seq_run0 (stp_move (.dat _) rfl) ?_
      exact ⟨_, backl H, ⟨rfl, rfl, rfl, rfl, rfl, rfl, trivial⟩, ⟨rfl, trivial⟩⟩
theorem k_slices_Equal_L_api_Turn_api_Turn_ (s1 : (List S_api_Turn)) (s2 : (List S_api_Turn)) (r : (Bool)) (H : m_slices_Equal_L_api_Turn_api_Turn_ s1 s2 = some r) : Fn Try.prog 46 [vlst (List.map C_api_Turn s1), vlst (List.map C_api_Turn s2)] (resOf [vbool r]) := by
  refine ⟨by kernel_rfl, pure_of (us := [vbool r]) Try.func46 rfl rfl rfl rfl fun X hN => ?_⟩
  unfold m_slices_Equal_L_api_Turn_api_Turn_ at H
  refine awp_seq ?_
  refine awp_plain hN rfl ?_
  refine seq_run0 (stp_assign (.dat _) rfl) ?_
  refine awp_seq ?_
  refine awp_seq ?_
  refine awp_plain hN rfl ?_
  refine seq_run0 (stp_move (.dat _) rfl) ?_
  refine seq_run0 (t_len tyU70 rfl) ?_
  refine seq_run0 (stp_move (.dat _) rfl) ?_
  refine seq_run0 (t_len tyU70 rfl) ?_
  refine seq_run0 (stp_neq rfl rfl) ?_
  refine awp_cond _ rfl (fun h3 => ?_) (fun h3 => ?_)
  · replace H := ift h3 H
    refine awp_seq ?_
    refine awp_plain hN rfl ?_
    refine seq_run0 (stp_assign (.dat _) rfl) ?_
    refine awp_ret ?_
    cases H
    exact ⟨trivial, .inl rfl, trivial⟩
  · replace H := iff_ h3 H
    refine awp_skip ?_
    refine awp_seq ?_
    refine awp_seq ?_
    refine awp_plain hN rfl ?_
    refine seq_run0 (stp_move (.dat _) rfl) ?_
    refine seq_run0 (t_len tyU70 rfl) ?_
    refine seq_run0 (stp_move (.dat _) rfl) ?_
    refine awp_block ?_
    obtain ⟨h6, H⟩ := gif H
    refine awp_forL (fun (k4 : Nat) (s : Unit) => [(0, .dat (vlst (List.map C_api_Turn s1))), (1, .dat (vlst (List.map C_api_Turn s2))), (12, .dat (vint (s1.length : Int))), (13, .dat (vint (k4 : Int)))]) (fun (k4 : Nat) (s : Unit) => []) () H ⟨rfl, rfl, rfl, rfl, trivial⟩ trivial (fun _ _ => rfl) ?_ ?_
    · rintro ⟨⟩ H
      replace H : slices_Equal_L_api_Turn_api_Turn__E1 = some r := H
      unfold slices_Equal_L_api_Turn_api_Turn__E1 at H
      refine awp_seq ?_
      refine awp_plain hN rfl ?_
      refine seq_run0 (stp_lss rfl rfl) ?_
      refine awp_seq ?_
      refine awp_cond _ rfl (fun h => (lt_t h).elim) (fun h => ?_)
      refine awp_exit ?_
      refine awp_seq ?_
      refine awp_plain hN rfl ?_
      refine seq_run0 (stp_assign (.dat _) rfl) ?_
      refine awp_ret ?_
      cases H
      exact ⟨trivial, .inl rfl, trivial⟩
    · rintro k4 x7 ⟨⟩ q5 h8 h9 H hq5
      replace H : slices_Equal_L_api_Turn_api_Turn__L1 s2 k4 x7 = some q5 := H
      unfold slices_Equal_L_api_Turn_api_Turn__L1 at H
      refine awp_seq ?_
      refine awp_plain hN rfl ?_
      refine seq_run0 (stp_lss rfl rfl) ?_
      refine awp_seq ?_
      refine awp_cond _ rfl (fun h => ?_) (fun h => (lt_f h8 h).elim)
      refine awp_skip ?_
      refine awp_seq ?_
      refine awp_block ?_
      refine awp_seq ?_
      refine awp_plain hN rfl ?_
      refine seq_run0 (stp_move (.dat _) rfl) ?_
      refine seq_run0 (stp_assign (.dat _) rfl) ?_
      refine awp_seq ?_
      refine awp_draw mixed hN rfl rfl ?_
      refine seq_run0 (stp_move (.dat _) rfl) ?_
      refine seq_run0 (stp_move (.dat _) rfl) ?_
      refine seq_run0 (t_idx tyE70 (fun _ => rfl) rfl rfl h9) ?_
      refine seq_run0 (stp_loadEA tyS84 rfl (map_at h9) rfl) ?_
      refine seq_run0 (stp_move (.dat _) rfl) ?_
      refine seq_run0 (stp_move (.dat _) rfl) ?_
      obtain ⟨x10, h11, H⟩ := bnd H
      refine seq_run0 (t_idx tyE70 (fun _ => rfl) rfl rfl h11) ?_
      refine seq_run0 (stp_loadEA tyS84 rfl (map_at h11) rfl) ?_
      refine seq_run0 (stp_aneq [_, _, _] [_, _, _] tyQ84 rfl rfl rfl) ?_
      refine ⟨rfl, ?_⟩
      refine awp_cond _ rfl (fun h12 => ?_) (fun h12 => ?_)
      · replace H := ift h12 H
        refine awp_seq ?_
        refine awp_plain hN rfl ?_
        refine seq_run0 (stp_assign (.dat _) rfl) ?_
        refine awp_ret ?_
        replace H := retl H hq5
        cases H
        exact ⟨trivial, .inl rfl, trivial⟩
      · replace H := iff_ h12 H
        refine awp_skip ?_
        refine awp_plain hN rfl ?_
        refine seq_run0 (stp_add rfl rfl (by omega)) ?_
        refine seq_run0 (stp_move (.dat _) rfl) ?_
        exact ⟨_, backl H, ⟨rfl, rfl, rfl, rfl, trivial⟩, trivial⟩
theorem k_slices_Equal_L_string_string_ (s1 : (List Bs)) (s2 : (List Bs)) (r : (Bool)) (H : m_slices_Equal_L_string_string_ s1 s2 = some r) : Fn Try.prog 47 [vlst (List.map C_string s1), vlst (List.map C_string s2)] (resOf [vbool r]) := by
  refine ⟨by kernel_rfl, pure_of (us := [vbool r]) Try.func47 rfl rfl rfl rfl fun X hN => ?_⟩
  unfold m_slices_Equal_L_string_string_ at H
  refine awp_seq ?_
  refine awp_plain hN rfl ?_
  refine seq_run0 (stp_assign (.dat _) rfl) ?_
  refine awp_seq ?_
  refine awp_seq ?_
  refine awp_plain hN rfl ?_
  refine seq_run0 (stp_move (.dat _) rfl) ?_
  refine seq_run0 (t_len tyU73 rfl) ?_
  refine seq_run0 (stp_move (.dat _) rfl) ?_
  refine seq_run0 (t_len tyU73 rfl) ?_
  refine seq_run0 (stp_neq rfl rfl) ?_
  refine awp_cond _ rfl (fun h3 => ?_) (fun h3 => ?_)
  · replace H := ift h3 H
    refine awp_seq ?_
    refine awp_plain hN rfl ?_
    refine seq_run0 (stp_assign (.dat _) rfl) ?_
    refine awp_ret ?_
    cases H
    exact ⟨trivial, .inl rfl, trivial⟩
  · replace H := iff_ h3 H
    refine awp_skip ?_
    refine awp_seq ?_
    refine awp_seq ?_
    refine awp_plain hN rfl ?_
    refine seq_run0 (stp_move (.dat _) rfl) ?_
    refine seq_run0 (t_len tyU73 rfl) ?_
    refine seq_run0 (stp_move (.dat _) rfl) ?_
    refine awp_block ?_
    obtain ⟨h6, H⟩ := gif H
    refine awp_forL (fun (k4 : Nat) (s : Unit) => [(0, .dat (vlst (List.map C_string s1))), (1, .dat (vlst (List.map C_string s2))), (12, .dat (vint (s1.length : Int))), (13, .dat (vint (k4 : Int)))]) (fun (k4 : Nat) (s : Unit) => []) () H ⟨rfl, rfl, rfl, rfl, trivial⟩ trivial (fun _ _ => rfl) ?_ ?_
    · rintro ⟨⟩ H
      replace H : slices_Equal_L_string_string__E1 = some r := H
      unfold slices_Equal_L_string_string__E1 at H
      refine awp_seq ?_
      refine awp_plain hN rfl ?_
      refine seq_run0 (stp_lss rfl rfl) ?_
      refine awp_seq ?_
      refine awp_cond _ rfl (fun h => (lt_t h).elim) (fun h => ?_)
      refine awp_exit ?_
      refine awp_seq ?_
      refine awp_plain hN rfl ?_
      refine seq_run0 (stp_assign (.dat _) rfl) ?_
      refine awp_ret ?_
      cases H
      exact ⟨trivial, .inl rfl, trivial⟩
    · rintro k4 x7 ⟨⟩ q5 h8 h9 H hq5
      replace H : slices_Equal_L_string_string__L1 s2 k4 x7 = some q5 := H
      unfold slices_Equal_L_string_string__L1 at H
      refine awp_seq ?_
      refine awp_plain hN rfl ?_
      refine seq_run0 (stp_lss rfl rfl) ?_
      refine awp_seq ?_
      refine awp_cond _ rfl (fun h => ?_) (fun h => (lt_f h8 h).elim)
      refine awp_skip ?_
      refine awp_seq ?_
      refine awp_block ?_
      refine awp_seq ?_
      refine awp_plain hN rfl ?_
      refine seq_run0 (stp_move (.dat _) rfl) ?_
      refine seq_run0 (stp_assign (.dat _) rfl) ?_
      refine awp_seq ?_
      refine awp_draw mixed hN rfl rfl ?_
      refine seq_run0 (stp_move (.dat _) rfl) ?_
      refine seq_run0 (stp_move (.dat _) rfl) ?_
      refine seq_run0 (t_idx tyE73 (fun _ => rfl) rfl rfl h9) ?_
      refine seq_run0 (stp_loadE1 tyS9 rfl (map_at h9) rfl) ?_
      refine seq_run0 (stp_move (.dat _) rfl) ?_
      refine seq_run0 (stp_move (.dat _) rfl) ?_
      obtain ⟨x10, h11, H⟩ := bnd H
      refine seq_run0 (t_idx tyE73 (fun _ => rfl) rfl rfl h11) ?_
      refine seq_run0 (stp_loadE1 tyS9 rfl (map_at h11) rfl) ?_
      refine seq_run0 (stp_sneq rfl rfl) ?_
      refine ⟨rfl, ?_⟩
      refine awp_cond _ rfl (fun h12 => ?_) (fun h12 => ?_)
      · replace H := ift h12 H
        refine awp_seq ?_
        refine awp_plain hN rfl ?_
        refine seq_run0 (stp_assign (.dat _) rfl) ?_
        refine awp_ret ?_
        replace H := retl H hq5
        cases H
        exact ⟨trivial, .inl rfl, trivial⟩
      · replace H := iff_ h12 H
        refine awp_skip ?_
        refine awp_plain hN rfl ?_
        refine seq_run0 (stp_add rfl rfl (by omega)) ?_
        refine seq_run0 (stp_move (.dat _) rfl) ?_
        exact ⟨_, backl H, ⟨rfl, rfl, rfl, rfl, trivial⟩, trivial⟩
theorem k_upstream_weights (l1 : (List S_api_Instance)) (r : (Int)) (H : m_upstream_weights l1 = some r) : Fn Try.prog 118 [vlst (List.map C_api_Instance l1)] (resOf [vint r]) := by
  refine ⟨by kernel_rfl, pure_of (us := [vint r]) Try.func118 rfl rfl rfl rfl fun X hN => ?_⟩
  unfold m_upstream_weights at H
  refine awp_seq ?_
  refine awp_plain hN rfl ?_
  refine seq_run0 (stp_assign (.dat _) rfl) ?_
  refine awp_seq ?_
  refine awp_plain hN rfl ?_
  refine seq_run0 (stp_assign (.dat _) rfl) ?_
  refine awp_seq ?_
  refine awp_seq ?_
  refine awp_plain hN rfl ?_
  refine seq_run0 (stp_move (.dat _) rfl) ?_
  refine seq_run0 (t_len tyU48 rfl) ?_
  refine seq_run0 (stp_move (.dat _) rfl) ?_
  refine awp_block ?_
  obtain ⟨h5, H⟩ := gif H
  refine awp_forL (fun (k3 : Nat) (s : Int) => [(3, .dat (vint s)), (6, .dat (vlst (List.map C_api_Instance l1))), (7, .dat (vint (l1.length : Int))), (8, .dat (vint (k3 : Int)))]) (fun (k3 : Nat) (s : Int) => []) 0 H ⟨rfl, rfl, rfl, rfl, trivial⟩ trivial (fun _ _ => rfl) ?_ ?_
  · rintro sum2 H
    replace H : upstream_weights_E1 sum2 = some r := H
    unfold upstream_weights_E1 at H
    refine awp_seq ?_
    refine awp_plain hN rfl ?_
    refine seq_run0 (stp_lss rfl rfl) ?_
    refine awp_seq ?_
    refine awp_cond _ rfl (fun h => (lt_t h).elim) (fun h => ?_)
    refine awp_exit ?_
    refine awp_seq ?_
    refine awp_plain hN rfl ?_
    refine seq_run0 (stp_move (.dat _) rfl) ?_
    refine seq_run0 (stp_assign (.dat _) rfl) ?_
    refine awp_ret ?_
    cases H
    exact ⟨trivial, .inl rfl, trivial⟩
  · rintro k3 x6 sum2 q4 h7 h8 H hq4
    replace H : upstream_weights_L1 k3 x6 sum2 = some q4 := H
    unfold upstream_weights_L1 at H
    refine awp_seq ?_
    refine awp_plain hN rfl ?_
    refine seq_run0 (stp_lss rfl rfl) ?_
    refine awp_seq ?_
    refine awp_cond _ rfl (fun h => ?_) (fun h => (lt_f h7 h).elim)
    refine awp_skip ?_
    refine awp_seq ?_
    refine awp_block ?_
    refine awp_seq ?_
    refine awp_plain hN rfl ?_
    refine seq_run0 (t_idx tyE48 (fun _ => rfl) rfl rfl h8) ?_
    refine seq_run0 (stp_loadEA tyS114 rfl (map_at h8) rfl) ?_
    refine seq_run2 (stp_alloc 1 tyZ114 rfl) rfl ?_
    refine seq_run2 (stp_storeW tyS114 rfl rfl rfl rfl) rfl ?_
    refine awp_plain hN rfl ?_
    refine seq_run0 (stp_move (.dat _) rfl) ?_
    refine seq_run0 (stp_fldP tyF114_1 rfl) ?_
    refine seq_run1 (stp_load1 tyS3 rfl rfl) rfl ?_
    refine seq_run0 (stp_wrap _ rfl rfl (.inl ⟨rfl, rfl⟩)) ?_
    refine seq_run0 (stp_assign (.dat _) rfl) ?_
    refine awp_plain hN rfl ?_
    refine seq_run0 (stp_add rfl rfl (by omega)) ?_
    refine seq_run0 (stp_move (.dat _) rfl) ?_
    exact ⟨_, backl H, ⟨rfl, rfl, rfl, rfl, trivial⟩, trivial⟩
theorem k_upstream_Round (v1 : (List S_api_Instance)) (v2 : Int) (r : ((List Bs) × Int)) (H : m_upstream_Round v1 v2 = some r) : Fn Try.prog 75 [vlst (List.map C_api_Instance v1), vint v2] (resOf [vlst (List.map C_string r.1), vint r.2]) := by
  refine ⟨by kernel_rfl, pure_of (us := [vlst (List.map C_string r.1), vint r.2]) Try.func75 rfl rfl rfl rfl fun X hN => ?_⟩
  unfold m_upstream_Round at H
  refine awp_seq ?_
  refine awp_plain hN rfl ?_
  refine seq_run0 (stp_assign (.dat _) rfl) ?_
  refine seq_run0 (stp_assign (.dat _) rfl) ?_
  refine awp_seq ?_
  refine awp_seq ?_
  refine awp_plain hN rfl ?_
  refine seq_run0 (stp_move (.dat _) rfl) ?_
  obtain ⟨r3, h4, H⟩ := bnd H
  refine seq_run0 (stp_call (k_upstream_CheckInstances v1 r3 h4) ⟨.inl rfl, trivial⟩) ?_
  refine seq_run0 (stp_assign (.dat _) rfl) ?_
  refine awp_seq ?_
  refine awp_plain hN rfl ?_
  refine seq_run0 (stp_move (.dat _) rfl) ?_
  refine seq_run0 (stp_neq rfl rfl) ?_
  refine awp_cond _ rfl (fun h5 => ?_) (fun h5 => ?_)
  · replace H := ift h5 H
    refine awp_seq ?_
    refine awp_plain hN rfl ?_
    refine seq_run0 (stp_move (.dat _) rfl) ?_
    refine seq_run0 (stp_assign (.dat _) rfl) ?_
    refine seq_run0 (stp_assign (.dat _) rfl) ?_
    refine awp_ret ?_
    cases H
    exact ⟨trivial, .inr ⟨rfl, rfl⟩, .inl rfl, trivial⟩
  · replace H := iff_ h5 H
    refine awp_skip ?_
    refine awp_seq ?_
    refine awp_seq ?_
    refine awp_plain hN rfl ?_
    refine seq_run0 (stp_move (.dat _) rfl) ?_
    obtain ⟨r6, h7, H⟩ := bnd H
    refine seq_run0 (stp_call (k_kit_Outside v2 0 2000 r6 h7) ⟨.inl rfl, .inl rfl, .inl rfl, trivial⟩) ?_
    refine awp_cond _ rfl (fun h8 => ?_) (fun h8 => ?_)
    · replace H := ift h8 H
      refine awp_seq ?_
      refine awp_plain hN rfl ?_
      refine seq_run0 (stp_assign (.dat _) rfl) ?_
      refine seq_run0 (stp_assign (.dat _) rfl) ?_
      refine awp_ret ?_
      cases H
      exact ⟨trivial, .inr ⟨rfl, rfl⟩, .inl rfl, trivial⟩
    · replace H := iff_ h8 H
      refine awp_skip ?_
      refine awp_seq ?_
      refine awp_seq ?_
      refine awp_plain hN rfl ?_
      refine seq_run0 (stp_move (.dat _) rfl) ?_
      refine seq_run0 (t_len tyU48 rfl) ?_
      refine seq_run0 (stp_eql rfl rfl) ?_
      refine awp_cond _ rfl (fun h9 => ?_) (fun h9 => ?_)
      · replace H := ift h9 H
        refine awp_seq ?_
        refine awp_plain hN rfl ?_
        refine seq_run0 (stp_assign (.dat _) rfl) ?_
        refine seq_run0 (stp_assign (.dat _) rfl) ?_
        refine awp_ret ?_
        cases H
        exact ⟨trivial, .inr ⟨rfl, rfl⟩, .inl rfl, trivial⟩
      · replace H := iff_ h9 H
        refine awp_skip ?_
        refine awp_seq ?_
        refine awp_plain hN rfl ?_
        refine seq_run0 (stp_move (.dat _) rfl) ?_
        refine seq_run0 (t_len tyU48 rfl) ?_
        obtain ⟨h10, H⟩ := gif H
        refine seq_run2 (t_make (C := C_int) 1 0 tyL22 tyZ3 rfl rfl rfl rfl h10 rfl) rfl ?_
        refine seq_run0 (stp_assign (.row _ _) rfl) ?_
        refine awp_seq ?_
        refine awp_plain hN rfl ?_
        refine seq_run0 (stp_move (.dat _) rfl) ?_
        obtain ⟨r11, h12, H⟩ := bnd H
        refine seq_run0 (stp_call (k_upstream_weights v1 r11 h12) ⟨.inl rfl, trivial⟩) ?_
        refine seq_run0 (stp_assign (.dat _) rfl) ?_
        refine awp_seq ?_
        refine awp_plain hN rfl ?_
        refine seq_run0 (stp_assign (.dat _) rfl) ?_
        refine awp_seq ?_
        refine awp_seq ?_
        refine awp_plain hN rfl ?_
        refine seq_run0 (stp_move (.dat _) rfl) ?_
        refine seq_run0 (stp_move (.dat _) rfl) ?_
        refine awp_block ?_
        refine awp_nilrow 9 2 9 1 rfl rfl rfl ?_
        obtain ⟨h17, H⟩ := gif H
        refine awp_rng (fun (k15 : Nat) (s : (List Int) × (List Bs)) => [(0, .dat (vlst (List.map C_api_Instance v1))), (7, .row 1 s.1.length), (8, .dat (vint r11)), (9, .row 2 s.2.length), (28, .dat (vint v2)), (29, .dat (vint (k15 : Int)))]) (fun (k15 : Nat) (s : (List Int) × (List Bs)) => [(1, .row 3 1 (List.map C_int s.1)), (2, .row 9 1 (List.map C_string s.2))]) ((List.replicate v1.length 0), []) H ⟨rfl, congrArg (Slot.row 1) (by simp), rfl, congrArg (Slot.row 2) (by simp), rfl, rfl, trivial⟩ ⟨rfl, rfl, trivial⟩ (fun _ _ => rfl) ?_ ?_
        · rintro ⟨l13, l14⟩ H
          replace H : upstream_Round_E1 l13 l14 = some r := H
          unfold upstream_Round_E1 at H
          refine awp_seq ?_
          refine awp_plain hN rfl ?_
          refine seq_run0 (stp_lss rfl rfl) ?_
          refine awp_seq ?_
          refine awp_cond _ rfl (fun h => (lt_tI h).elim) (fun h => ?_)
          refine awp_exit ?_
          refine awp_seq ?_
          refine awp_plain hN rfl ?_
          refine seq_run0 (stp_move (.row _ _) rfl) ?_
          refine seq_run0 (stp_assign (.row _ _) rfl) ?_
          refine seq_run0 (stp_assign (.dat _) rfl) ?_
          refine awp_ret ?_
          cases H
          exact ⟨trivial, t_slotv rfl rfl, .inl rfl, trivial⟩
        · rintro k15 ⟨l13, l14⟩ q16 h18 H hq16
          replace H : upstream_Round_L1 v1 r11 k15 l13 l14 = some q16 := H
          unfold upstream_Round_L1 at H
          refine awp_seq ?_
          refine awp_plain hN rfl ?_
          refine seq_run0 (stp_lss rfl rfl) ?_
          refine awp_seq ?_
          refine awp_cond _ rfl (fun h => ?_) (fun h => (lt_fI h18 h).elim)
          refine awp_skip ?_
          refine awp_seq ?_
          refine awp_block ?_
          refine awp_seq ?_
          refine awp_plain hN rfl ?_
          refine seq_run0 (stp_assign (.dat _) rfl) ?_
          refine awp_seq ?_
          refine awp_seq ?_
          refine awp_plain hN rfl ?_
          refine seq_run0 (stp_move (.dat _) rfl) ?_
          refine seq_run0 (t_len tyU48 rfl) ?_
          refine seq_run0 (stp_move (.dat _) rfl) ?_
          refine awp_block ?_
          obtain ⟨h23, H⟩ := gif H
          refine awp_forL (fun (k21 : Nat) (s : Int × (List Int)) => [(0, .dat (vlst (List.map C_api_Instance v1))), (7, .row 1 s.2.length), (8, .dat (vint r11)), (9, .row 2 l14.length), (10, .dat (vint s.1)), (28, .dat (vint v2)), (29, .dat (vint (k15 : Int))), (31, .dat (vlst (List.map C_api_Instance v1))), (32, .dat (vint (v1.length : Int))), (33, .dat (vint (k21 : Int)))]) (fun (k21 : Nat) (s : Int × (List Int)) => [(1, .row 3 1 (List.map C_int s.2)), (2, .row 9 1 (List.map C_string l14))]) (0, l13) H ⟨rfl, rfl, rfl, rfl, rfl, rfl, rfl, rfl, rfl, rfl, trivial⟩ ⟨rfl, rfl, trivial⟩ (fun _ _ => rfl) ?_ ?_
          · rintro ⟨v19, l20⟩ H
            replace H : upstream_Round_E2 v1 r11 l14 v19 l20 = some q16 := H
            unfold upstream_Round_E2 at H
            refine awp_seq ?_
            refine awp_plain hN rfl ?_
            refine seq_run0 (stp_lss rfl rfl) ?_
            refine awp_seq ?_
            refine awp_cond _ rfl (fun h => (lt_t h).elim) (fun h => ?_)
            refine awp_exit ?_
            refine awp_seq ?_
            refine awp_plain hN rfl ?_
            refine seq_run0 (stp_move (.row _ _) rfl) ?_
            refine seq_run0 (stp_move (.dat _) rfl) ?_
            obtain ⟨x25, h26, H⟩ := bnd H
            refine seq_run1 (t_idxRI tyE22 rfl rfl rfl h26) rfl ?_
            refine seq_run1 (t_loadR1 tyS3 rfl rfl (at_some h26).2 rfl) rfl ?_
            refine seq_run0 (stp_move (.dat _) rfl) ?_
            refine seq_run0 (stp_wrap _ rfl rfl (.inr (.inl ⟨rfl, rfl⟩))) ?_
            refine seq_run1 (t_idxRI tyE22 rfl rfl rfl h26) rfl ?_
            refine seq_run2 (t_storeR (wr (x25 - r11)) tyS3 rfl rfl rfl rfl (at_some h26).2 rfl rfl) rfl ?_
            refine awp_plain hN rfl ?_
            refine seq_run0 (stp_move (.row _ _) rfl) ?_
            refine seq_run0 (stp_move (.dat _) rfl) ?_
            refine seq_run0 (stp_move (.dat _) rfl) ?_
            obtain ⟨x27, h28, H⟩ := bnd H
            refine seq_run0 (t_idxI tyE48 (fun _ => rfl) rfl rfl h28) ?_
            refine seq_run0 (stp_fldE tyF114_0 rfl) ?_
            refine seq_run0 (stp_loadE1 tyS9 rfl (map_at (at_some h28).2) rfl) ?_
            refine seq_run0 (stp_dat (u' := vlst (List.map C_string [x27.Key])) (stp_lit [[_]] tyL73 ⟨rfl, .inl ⟨_, rfl, rfl, rfl⟩, rfl, trivial⟩ rfl rfl) rfl) ?_
            obtain ⟨h29, H⟩ := gif H
            refine seq_run2 (t_app tyL73 (fun _ => rfl) rfl rfl rfl ⟨by simp, by simpa using h29⟩ rfl) rfl ?_
            refine seq_run0 (stp_assign (.row _ _) rfl) ?_
            refine awp_plain hN rfl ?_
            refine seq_run0 (stp_add rfl rfl (by omega)) ?_
            refine seq_run0 (stp_move (.dat _) rfl) ?_
            exact ⟨_, backl H, ⟨rfl, congrArg (Slot.row 1) (by simp), rfl, rfl, rfl, rfl, trivial⟩, ⟨rfl, rfl, trivial⟩⟩
          · rintro k21 x24 ⟨v19, l20⟩ q22 h30 h31 H hq22
            replace H : upstream_Round_L2 k21 x24 v19 l20 = some q22 := H
            unfold upstream_Round_L2 at H
            refine awp_seq ?_
            refine awp_plain hN rfl ?_
            refine seq_run0 (stp_lss rfl rfl) ?_
            refine awp_seq ?_
            refine awp_cond _ rfl (fun h => ?_) (fun h => (lt_f h30 h).elim)
            refine awp_skip ?_
            refine awp_joinE (ι := Int × (List Int)) (fun i => [(0, .dat (vlst (List.map C_api_Instance v1))), (7, .row 1 i.2.length), (8, .dat (vint r11)), (9, .row 2 l14.length), (10, .dat (vint i.1)), (28, .dat (vint v2)), (29, .dat (vint (k15 : Int))), (31, .dat (vlst (List.map C_api_Instance v1))), (32, .dat (vint (v1.length : Int))), (33, .dat (vint (k21 : Int)))]) (fun i => [(1, .row 3 1 (List.map C_int i.2)), (2, .row 9 1 (List.map C_string l14))]) (fun i => upstream_Round_J3 i.1 i.2 = some q22) (fun i => rfl) ?_ ?_
            · skip
              refine awp_block ?_
              refine awp_seq ?_
              refine awp_plain hN rfl ?_
              refine seq_run0 (stp_move (.dat _) rfl) ?_
              refine seq_run0 (t_idx tyE48 (fun _ => rfl) rfl rfl h31) ?_
              refine seq_run0 (stp_loadEA tyS114 rfl (map_at h31) rfl) ?_
              refine seq_run2 (stp_alloc 3 tyZ114 rfl) rfl ?_
              refine seq_run0 (stp_assign (.dat _) rfl) ?_
              refine seq_run2 (stp_storeW tyS114 rfl rfl rfl rfl) rfl ?_
              refine awp_seq ?_
              refine awp_draw mixed hN rfl rfl ?_
              refine seq_run0 (stp_move (.row _ _) rfl) ?_
              refine seq_run0 (stp_move (.dat _) rfl) ?_
              obtain ⟨x32, h33, H⟩ := bnd H
              refine seq_run1 (t_idxR tyE22 rfl rfl rfl h33) rfl ?_
              refine seq_run1 (t_loadR1 tyS3 rfl rfl h33 rfl) rfl ?_
              refine seq_run0 (stp_fldP tyF114_1 rfl) ?_
              refine seq_run1 (stp_load1 tyS3 rfl rfl) rfl ?_
              refine seq_run0 (stp_wrap _ rfl rfl (.inl ⟨rfl, rfl⟩)) ?_
              refine seq_run1 (t_idxR tyE22 rfl rfl rfl h33) rfl ?_
              refine seq_run2 (t_storeR (wr (x32 + x24.Weight)) tyS3 rfl rfl rfl rfl h33 rfl rfl) rfl ?_
              refine ⟨rfl, ?_⟩
              refine awp_seq ?_
              refine awp_draw mixed hN rfl rfl ?_
              refine seq_run0 (stp_move (.row _ _) rfl) ?_
              refine seq_run0 (stp_move (.dat _) rfl) ?_
              obtain ⟨x34, h35, H⟩ := bnd H
              refine seq_run1 (t_idxR tyE22 rfl (by simp) rfl h35) rfl ?_
              refine seq_run1 (t_loadR1 tyS3 rfl (by simp) h35 rfl) rfl ?_
              refine seq_run0 (stp_move (.row _ _) rfl) ?_
              refine seq_run0 (stp_move (.dat _) rfl) ?_
              obtain ⟨x36, h37, H⟩ := bnd H
              refine seq_run1 (t_idxRI tyE22 rfl (by simp) rfl h37) rfl ?_
              refine seq_run1 (t_loadR1 tyS3 rfl (by simp) (at_some h37).2 rfl) rfl ?_
              refine seq_run0 (stp_gtr rfl rfl) ?_
              refine ⟨rfl, ?_⟩
              refine awp_cond _ rfl (fun h38 => ?_) (fun h38 => ?_)
              · replace H := ift h38 H
                refine awp_plain hN rfl ?_
                refine seq_run0 (stp_move (.dat _) rfl) ?_
                refine seq_run0 (stp_assign (.dat _) rfl) ?_
                exact ⟨((k21 : Int), (l20.set k21 (wr (x32 + x24.Weight)))), H, ⟨rfl, congrArg (Slot.row 1) (by simp), rfl, rfl, rfl, rfl, rfl, rfl, rfl, rfl, trivial⟩, ⟨rfl, rfl, trivial⟩⟩
              · replace H := iff_ h38 H
                refine awp_skip ?_
                exact ⟨(v19, (l20.set k21 (wr (x32 + x24.Weight)))), H, ⟨rfl, congrArg (Slot.row 1) (by simp), rfl, rfl, rfl, rfl, rfl, rfl, rfl, rfl, trivial⟩, ⟨rfl, rfl, trivial⟩⟩
            · rintro ⟨v39, v40⟩ H
              replace H : upstream_Round_J3 v39 v40 = some q22 := H
              unfold upstream_Round_J3 at H
              refine awp_plain hN rfl ?_
              refine seq_run0 (stp_add rfl rfl (by omega)) ?_
              refine seq_run0 (stp_move (.dat _) rfl) ?_
              exact ⟨_, backl H, ⟨rfl, rfl, rfl, rfl, rfl, rfl, rfl, rfl, rfl, rfl, trivial⟩, ⟨rfl, rfl, trivial⟩⟩
theorem k_gatelaw2_balanced  (r : (Bool)) (H : m_gatelaw2_balanced  = some r) : Fn Try.prog 12 [] (resOf [vbool r]) := by
  refine ⟨by kernel_rfl, pure_of (us := [vbool r]) Try.func12 rfl rfl rfl rfl fun X hN => ?_⟩
  unfold m_gatelaw2_balanced at H
  refine awp_seq ?_
  refine awp_plain hN rfl ?_
  refine seq_run0 (stp_assign (.dat _) rfl) ?_
  refine awp_seq ?_
  refine awp_plain hN rfl ?_
  refine seq_run0 (stp_dat (u' := vagg (C_api_Instance (S_api_Instance.mk [97] 1))) (stp_build [(0, [vstr [97]]), (1, [vint 1])] tyZ114 tyP114 rfl ⟨rfl, .inl ⟨_, rfl, rfl, rfl⟩, rfl, rfl, .inl ⟨_, rfl, rfl, rfl⟩, rfl, trivial⟩) rfl) ?_
  refine seq_run0 (stp_dat (u' := vagg (C_api_Instance (S_api_Instance.mk [98] 2))) (stp_build [(0, [vstr [98]]), (1, [vint 2])] tyZ114 tyP114 rfl ⟨rfl, .inl ⟨_, rfl, rfl, rfl⟩, rfl, rfl, .inl ⟨_, rfl, rfl, rfl⟩, rfl, trivial⟩) rfl) ?_
  refine seq_run0 (stp_dat (u' := vlst (List.map C_api_Instance [(S_api_Instance.mk [97] 1), (S_api_Instance.mk [98] 2)])) (stp_lit [_, _] tyL48 ⟨rfl, .inr rfl, rfl, rfl, .inr rfl, rfl, trivial⟩ rfl rfl) rfl) ?_
  obtain ⟨r1, h2, H⟩ := bnd H
  refine seq_run0 (stp_call (k_upstream_Round ([(S_api_Instance.mk [97] 1), (S_api_Instance.mk [98] 2)]) 3 r1 h2) ⟨.inl rfl, .inl rfl, trivial⟩) ?_
  refine seq_run0 (stp_move (.dat _) rfl) ?_
  refine seq_run0 (stp_ext rfl rfl) ?_
  refine seq_run0 (stp_ext rfl rfl) ?_
  refine seq_run0 (stp_assign (.dat _) rfl) ?_
  refine seq_run0 (stp_assign (.dat _) rfl) ?_
  refine awp_joinE (ι := Bool) (fun i => [(0, .dat (vbool i))]) (fun i => []) (fun i => gatelaw2_balanced_J1 i = some r) (fun i => rfl) ?_ ?_
  · skip
    refine awp_plain hN rfl ?_
    refine seq_run0 (stp_move (.dat _) rfl) ?_
    refine seq_run0 (stp_eql rfl rfl) ?_
    refine seq_run0 (stp_move (.dat _) rfl) ?_
    refine seq_split (j := 2) rfl rfl (fun h3 => ?_) (fun h3 => ?_) rfl
    · have h4 := un1 h3
      replace H := ift h4 H
      refine seq_g0 rfl rfl h3 (stp_move (.dat _) rfl) ?_
      refine seq_g0 rfl rfl h3 (stp_dat (u' := vlst (List.map C_string [[98], [97], [98]])) (stp_lit [[_], [_], [_]] tyL73 ⟨rfl, .inl ⟨_, rfl, rfl, rfl⟩, rfl, rfl, .inl ⟨_, rfl, rfl, rfl⟩, rfl, rfl, .inl ⟨_, rfl, rfl, rfl⟩, rfl, trivial⟩ rfl rfl) rfl) ?_
      obtain ⟨r5, h6, H⟩ := bnd H
      refine seq_g0 rfl rfl h3 (stp_call (k_slices_Equal_L_string_string_ r1.1 ([[98], [97], [98]]) r5 h6) ⟨.inl rfl, .inl rfl, trivial⟩) ?_
      refine seq_run0 (stp_pick_t rfl (bTT h4) rfl) ?_
      refine seq_run0 (stp_assign (.dat _) rfl) ?_
      exact ⟨r5, H, ⟨rfl, trivial⟩, trivial⟩
    · have h7 := un2 h3
      replace H := iff_ h7 H
      refine seq_skip rfl rfl h3 ?_
      refine seq_skip rfl rfl h3 ?_
      refine seq_skip rfl rfl h3 ?_
      refine seq_run0 (stp_pick_f rfl (bFF h7) rfl) ?_
      refine seq_run0 (stp_assign (.dat _) rfl) ?_
      exact ⟨false, H, ⟨rfl, trivial⟩, trivial⟩
  · rintro v8 H
    replace H : gatelaw2_balanced_J1 v8 = some r := H
    unfold gatelaw2_balanced_J1 at H
    refine awp_ret ?_
    cases H
    exact ⟨trivial, .inl rfl, trivial⟩
theorem k_gatelaw2_HealthTurns (v1 : (List Int)) (r : (Bool)) (H : m_gatelaw2_HealthTurns v1 = some r) : Fn Try.prog 5 [vlst (List.map C_int v1)] (resOf [vbool r]) := by
  refine ⟨by kernel_rfl, pure_of (us := [vbool r]) Try.func5 rfl rfl rfl rfl fun X hN => ?_⟩
  unfold m_gatelaw2_HealthTurns at H
  refine awp_seq ?_
  refine awp_plain hN rfl ?_
  refine seq_run0 (stp_assign (.dat _) rfl) ?_
  refine awp_seq ?_
  refine awp_plain hN rfl ?_
  refine seq_run0 (stp_move (.dat _) rfl) ?_
  refine seq_run0 (stp_dat (u' := vagg (C_gatemake_Stream (S_gatemake_Stream.mk v1 0))) (stp_build [(0, [vlst (List.map C_int v1)])] tyZ25 tyP25 rfl ⟨rfl, .inl ⟨_, rfl, rfl, rfl⟩, rfl, trivial⟩) rfl) ?_
  refine seq_run2 (stp_boxA 1 rfl) rfl ?_
  refine seq_run0 (stp_assign (.ptr _ _) rfl) ?_
  refine awp_seq ?_
  refine awp_plain hN rfl ?_
  refine seq_run0 (stp_move (.ptr _ _) rfl) ?_
  obtain ⟨r2, h3, H⟩ := bnd H
  refine seq_run2 (stp_imp (k_gatemake_Stream_Instances (S_gatemake_Stream.mk v1 0) r2 h3) rfl trivial rfl) rfl ?_
  refine seq_run0 (stp_move (.ptr _ _) rfl) ?_
  obtain ⟨r4, h5, H⟩ := bnd H
  refine seq_run2 (stp_imp (k_gatemake_Stream_Health r2.2 r4 h5) rfl trivial rfl) rfl ?_
  refine seq_run0 (stp_move (.ptr _ _) rfl) ?_
  refine seq_run0 (stp_dat (u' := vlst (List.map C_int [0, 5, 20, 50, 100, (-1)])) (stp_lit [[_], [_], [_], [_], [_], [_]] tyL22 ⟨rfl, .inl ⟨_, rfl, rfl, rfl⟩, rfl, rfl, .inl ⟨_, rfl, rfl, rfl⟩, rfl, rfl, .inl ⟨_, rfl, rfl, rfl⟩, rfl, rfl, .inl ⟨_, rfl, rfl, rfl⟩, rfl, rfl, .inl ⟨_, rfl, rfl, rfl⟩, rfl, rfl, .inl ⟨_, rfl, rfl, rfl⟩, rfl, trivial⟩ rfl rfl) rfl) ?_
  obtain ⟨r6, h7, H⟩ := bnd H
  refine seq_run2 (stp_imp (k_gatemake_Stream_Pick r4.2 [0, 5, 20, 50, 100, (-1)] r6 h7) rfl ⟨.inl rfl, trivial⟩ rfl) rfl ?_
  refine seq_run2 (stp_alloc 2 tyZ66 rfl) rfl ?_
  refine seq_run0 (stp_assign (.dat _) rfl) ?_
  refine seq_run2 (stp_storeW tyS66 rfl rfl rfl rfl) rfl ?_
  refine seq_run0 (stp_assign (.dat _) rfl) ?_
  refine awp_seq ?_
  refine awp_plain hN rfl ?_
  refine seq_run0 (stp_move (.ptr _ _) rfl) ?_
  refine seq_run0 (stp_move (.dat _) rfl) ?_
  obtain ⟨r8, h9, H⟩ := bnd H
  refine seq_run2 (stp_imp (k_gatemake_Stream_Probes r6.2 r2.1 r8 h9) rfl ⟨.inl rfl, trivial⟩ rfl) rfl ?_
  refine seq_run0 (stp_assign (.dat _) rfl) ?_
  refine awp_seq ?_
  refine awp_plain hN rfl ?_
  refine seq_run0 (stp_move (.dat _) rfl) ?_
  refine seq_run1 (stp_loadA tyS66 rfl rfl rfl) rfl ?_
  refine seq_run0 (stp_move (.dat _) rfl) ?_
  obtain ⟨r10, h11, H⟩ := bnd H
  refine seq_run0 (stp_call (k_upstream_Turns r2.1 r4.1 r8.1 r10 h11) ⟨.inl rfl, .inl rfl, .inl rfl, trivial⟩) ?_
  refine seq_run0 (stp_move (.dat _) rfl) ?_
  refine seq_run0 (stp_ext rfl rfl) ?_
  refine seq_run0 (stp_ext rfl rfl) ?_
  refine seq_run0 (stp_assign (.dat _) rfl) ?_
  refine seq_run0 (stp_assign (.dat _) rfl) ?_
  refine awp_seq ?_
  refine awp_plain hN rfl ?_
  refine seq_run0 (stp_move (.dat _) rfl) ?_
  refine seq_run1 (stp_loadA tyS66 rfl rfl rfl) rfl ?_
  refine seq_run0 (stp_move (.dat _) rfl) ?_
  refine seq_run0 (stp_move (.dat _) rfl) ?_
  obtain ⟨r12, h13, H⟩ := bnd H
  refine seq_run0 (stp_call (k_upstream_Up r2.1 r4.1 r8.1 r6.1 r12 h13) ⟨.inl rfl, .inl rfl, .inl rfl, .inl rfl, trivial⟩) ?_
  refine seq_run0 (stp_move (.dat _) rfl) ?_
  refine seq_run0 (stp_ext rfl rfl) ?_
  refine seq_run0 (stp_ext rfl rfl) ?_
  refine seq_run0 (stp_assign (.dat _) rfl) ?_
  refine seq_run0 (stp_assign (.dat _) rfl) ?_
  refine awp_seq ?_
  refine awp_plain hN rfl ?_
  refine seq_run0 (stp_move (.dat _) rfl) ?_
  obtain ⟨r14, h15, H⟩ := bnd H
  refine seq_run0 (stp_call (k_gateref2_InstancesFault r2.1 r14 h15) ⟨.inl rfl, trivial⟩) ?_
  refine seq_run0 (stp_assign (.dat _) rfl) ?_
  refine awp_seq ?_
  refine awp_joinE (ι := Bool) (fun i => [(4, .dat (vlst (List.map C_api_Instance r2.1))), (5, .ptr 2 0), (6, .dat (vint r6.1)), (7, .dat (vlst (List.map C_api_Probe r8.1))), (8, .dat (vlst (List.map C_api_Turn r10.1))), (9, .dat (vint r10.2)), (10, .dat (vlst (List.map C_string r12.1))), (11, .dat (vint r12.2)), (12, .dat (vint r14)), (62, .dat (vbool i))]) (fun i => [(2, .box none 66 [.dat (vint r4.1.Rise), .dat (vint r4.1.Fall)])]) (fun i => gatelaw2_HealthTurns_J1 r2 r4 r6 r8 r10 r12 r14 i = some r) (fun i => rfl) ?_ ?_
  · skip
    refine awp_plain hN rfl ?_
    refine seq_run0 (stp_move (.dat _) rfl) ?_
    obtain ⟨r16, h17, H⟩ := bnd H
    refine seq_run0 (stp_call (k_upstream_CheckInstances r2.1 r16 h17) ⟨.inl rfl, trivial⟩) ?_
    refine seq_run0 (stp_move (.dat _) rfl) ?_
    refine seq_run0 (stp_neq rfl rfl) ?_
    refine seq_run0 (stp_move (.dat _) rfl) ?_
    refine seq_split (j := 4) rfl rfl (fun h18 => ?_) (fun h18 => ?_) rfl
    · have h19 := un3 h18
      replace H := iff_ h19 H
      refine seq_g0 rfl rfl h18 (stp_move (.dat _) rfl) ?_
      refine seq_g0 rfl rfl h18 (stp_move (.dat _) rfl) ?_
      obtain ⟨r20, h21, H⟩ := bnd H
      refine seq_g0 rfl rfl h18 (stp_call (k_upstream_CheckProbes r2.1 r8.1 r20 h21) ⟨.inl rfl, .inl rfl, trivial⟩) ?_
      refine seq_g0 rfl rfl h18 (stp_move (.dat _) rfl) ?_
      refine seq_g0 rfl rfl h18 (stp_move (.dat _) rfl) ?_
      refine seq_g0 rfl rfl h18 (stp_move (.dat _) rfl) ?_
      obtain ⟨r22, h23, H⟩ := bnd H
      refine seq_g0 rfl rfl h18 (stp_call (k_gateref2_ProbesFault r2.1 r8.1 r22 h23) ⟨.inl rfl, .inl rfl, trivial⟩) ?_
      refine seq_g0 rfl rfl h18 (stp_dat (u' := vlst (List.map C_api_Errno [r14, r22])) (stp_lit [[_], [_]] tyL143 ⟨rfl, .inl ⟨_, rfl, rfl, rfl⟩, rfl, rfl, .inl ⟨_, rfl, rfl, rfl⟩, rfl, trivial⟩ rfl rfl) rfl) ?_
      obtain ⟨r24, h25, H⟩ := bnd H
      refine seq_g0 rfl rfl h18 (stp_call (k_gatelaw2_errs [r14, r22] r24 h25) ⟨.inl rfl, trivial⟩) ?_
      refine seq_g0 rfl rfl h18 (stp_neq rfl rfl) ?_
      refine seq_run0 (stp_pick_f rfl (bFF h19) rfl) ?_
      exact ⟨decide (r20 ≠ r24), H, ⟨rfl, rfl, rfl, rfl, rfl, rfl, rfl, rfl, rfl, rfl, trivial⟩, ⟨rfl, trivial⟩⟩
    · have h26 := un4 h18
      replace H := ift h26 H
      refine seq_skip rfl rfl h18 ?_
      refine seq_skip rfl rfl h18 ?_
      refine seq_skip rfl rfl h18 ?_
      refine seq_skip rfl rfl h18 ?_
      refine seq_skip rfl rfl h18 ?_
      refine seq_skip rfl rfl h18 ?_
      refine seq_skip rfl rfl h18 ?_
      refine seq_skip rfl rfl h18 ?_
      refine seq_skip rfl rfl h18 ?_
      refine seq_skip rfl rfl h18 ?_
      refine seq_run0 (stp_pick_t rfl (bTT h26) rfl) ?_
      exact ⟨true, H, ⟨rfl, rfl, rfl, rfl, rfl, rfl, rfl, rfl, rfl, rfl, trivial⟩, ⟨rfl, trivial⟩⟩
  · rintro v27 H
    replace H : gatelaw2_HealthTurns_J1 r2 r4 r6 r8 r10 r12 r14 v27 = some r := H
    unfold gatelaw2_HealthTurns_J1 at H
    refine awp_cond _ rfl (fun h28 => ?_) (fun h28 => ?_)
    · replace H := ift h28 H
      refine awp_seq ?_
      refine awp_plain hN rfl ?_
      refine seq_run0 (stp_assign (.dat _) rfl) ?_
      refine awp_ret ?_
      cases H
      exact ⟨trivial, .inl rfl, trivial⟩
    · replace H := iff_ h28 H
      refine awp_skip ?_
      refine awp_seq ?_
      refine awp_plain hN rfl ?_
      refine seq_run0 (stp_move (.dat _) rfl) ?_
      refine seq_run1 (stp_loadA tyS66 rfl rfl rfl) rfl ?_
      obtain ⟨r29, h30, H⟩ := bnd H
      refine seq_run0 (stp_call (k_gateref2_HealthFault r4.1 r29 h30) ⟨.inl rfl, trivial⟩) ?_
      refine seq_run0 (stp_dat (u' := vlst (List.map C_api_Errno [r14, r29])) (stp_lit [[_], [_]] tyL143 ⟨rfl, .inl ⟨_, rfl, rfl, rfl⟩, rfl, rfl, .inl ⟨_, rfl, rfl, rfl⟩, rfl, trivial⟩ rfl rfl) rfl) ?_
      obtain ⟨r31, h32, H⟩ := bnd H
      refine seq_run0 (stp_call (k_gatelaw2_errs [r14, r29] r31 h32) ⟨.inl rfl, trivial⟩) ?_
      refine seq_run0 (stp_assign (.dat _) rfl) ?_
      refine awp_joinE (ι := Int) (fun i => [(4, .dat (vlst (List.map C_api_Instance r2.1))), (5, .ptr 2 0), (6, .dat (vint r6.1)), (7, .dat (vlst (List.map C_api_Probe r8.1))), (8, .dat (vlst (List.map C_api_Turn r10.1))), (9, .dat (vint r10.2)), (10, .dat (vlst (List.map C_string r12.1))), (11, .dat (vint r12.2)), (13, .dat (vint i))]) (fun i => [(2, .box none 66 [.dat (vint r4.1.Rise), .dat (vint r4.1.Fall)])]) (fun i => gatelaw2_HealthTurns_J2 r2 r4 r6 r8 r10 r12 i = some r) (fun i => rfl) ?_ ?_
      · skip
        refine awp_seq ?_
        refine awp_plain hN rfl ?_
        refine seq_run0 (stp_move (.dat _) rfl) ?_
        refine seq_run0 (stp_eql rfl rfl) ?_
        refine awp_cond _ rfl (fun h33 => ?_) (fun h33 => ?_)
        · replace H := ift h33 H
          refine awp_plain hN rfl ?_
          refine seq_run0 (stp_move (.dat _) rfl) ?_
          refine seq_run0 (stp_move (.dat _) rfl) ?_
          obtain ⟨r34, h35, H⟩ := bnd H
          refine seq_run0 (stp_call (k_gateref2_ProbesFault r2.1 r8.1 r34 h35) ⟨.inl rfl, .inl rfl, trivial⟩) ?_
          refine seq_run0 (stp_assign (.dat _) rfl) ?_
          exact ⟨r34, H, ⟨rfl, rfl, rfl, rfl, rfl, rfl, rfl, rfl, rfl, trivial⟩, ⟨rfl, trivial⟩⟩
        · replace H := iff_ h33 H
          refine awp_skip ?_
          exact ⟨r31, H, ⟨rfl, rfl, rfl, rfl, rfl, rfl, rfl, rfl, rfl, trivial⟩, ⟨rfl, trivial⟩⟩
      · rintro v36 H
        replace H : gatelaw2_HealthTurns_J2 r2 r4 r6 r8 r10 r12 v36 = some r := H
        unfold gatelaw2_HealthTurns_J2 at H
        refine awp_seq ?_
        refine awp_plain hN rfl ?_
        refine seq_run0 (stp_move (.dat _) rfl) ?_
        refine seq_run0 (stp_move (.dat _) rfl) ?_
        obtain ⟨r37, h38, H⟩ := bnd H
        refine seq_run0 (stp_call (k_gatelaw2_momentFault r6.1 r37 h38) ⟨.inl rfl, trivial⟩) ?_
        refine seq_run0 (stp_dat (u' := vlst (List.map C_api_Errno [v36, r37])) (stp_lit [[_], [_]] tyL143 ⟨rfl, .inl ⟨_, rfl, rfl, rfl⟩, rfl, rfl, .inl ⟨_, rfl, rfl, rfl⟩, rfl, trivial⟩ rfl rfl) rfl) ?_
        obtain ⟨r39, h40, H⟩ := bnd H
        refine seq_run0 (stp_call (k_gatelaw2_errs [v36, r37] r39 h40) ⟨.inl rfl, trivial⟩) ?_
        refine seq_run0 (stp_assign (.dat _) rfl) ?_
        refine awp_seq ?_
        refine awp_plain hN rfl ?_
        refine seq_run0 (stp_assign (.dat _) rfl) ?_
        refine awp_seq ?_
        refine awp_plain hN rfl ?_
        refine seq_run0 (stp_assign (.dat _) rfl) ?_
        refine awp_joinW (ι := (List S_api_Turn)) (fun i => [(4, .dat (vlst (List.map C_api_Instance r2.1))), (5, .ptr 2 0), (6, .dat (vint r6.1)), (7, .dat (vlst (List.map C_api_Probe r8.1))), (8, .dat (vlst (List.map C_api_Turn r10.1))), (9, .dat (vint r10.2)), (10, .dat (vlst (List.map C_string r12.1))), (11, .dat (vint r12.2)), (13, .dat (vint v36)), (14, .dat (vint r39)), (15, .dat (vlst (List.map C_api_Turn i))), (16, .dat (vnil))]) (fun i => [(2, .box none 66 [.dat (vint r4.1.Rise), .dat (vint r4.1.Fall)])]) (fun i => gatelaw2_HealthTurns_J3 r2 r4 r6 r8 r10 r12 v36 r39 i = some r) (fun i => rfl) (fun i => rfl) ?_ ?_
        · skip
          refine awp_seq ?_
          refine awp_plain hN rfl ?_
          refine seq_run0 (stp_move (.dat _) rfl) ?_
          refine seq_run0 (stp_eql rfl rfl) ?_
          refine awp_cond _ rfl (fun h41 => ?_) (fun h41 => ?_)
          · replace H := ift h41 H
            refine awp_plain hN rfl ?_
            refine seq_run0 (stp_move (.dat _) rfl) ?_
            refine seq_run1 (stp_loadA tyS66 rfl rfl rfl) rfl ?_
            refine seq_run0 (stp_move (.dat _) rfl) ?_
            obtain ⟨r42, h43, H⟩ := bnd H
            refine seq_run0 (stp_call (k_gateref2_TurnsOf r2.1 r4.1 r8.1 r42 h43) ⟨.inl rfl, .inl rfl, .inl rfl, trivial⟩) ?_
            refine seq_run0 (stp_assign (.dat _) rfl) ?_
            exact ⟨r42, H, ⟨.inl rfl, .inl rfl, .inl rfl, .inl rfl, .inl rfl, .inl rfl, .inl rfl, .inl rfl, .inl rfl, .inl rfl, .inl rfl, .inl rfl, trivial⟩, ⟨rfl, trivial⟩⟩
          · replace H := iff_ h41 H
            refine awp_skip ?_
            exact ⟨[], H, ⟨.inl rfl, .inl rfl, .inl rfl, .inl rfl, .inl rfl, .inl rfl, .inl rfl, .inl rfl, .inl rfl, .inl rfl, .inr ⟨rfl, rfl⟩, .inl rfl, trivial⟩, ⟨rfl, trivial⟩⟩
        · rintro v44 H
          replace H : gatelaw2_HealthTurns_J3 r2 r4 r6 r8 r10 r12 v36 r39 v44 = some r := H
          unfold gatelaw2_HealthTurns_J3 at H
          refine awp_joinW (ι := (List Bs)) (fun i => [(8, .dat (vlst (List.map C_api_Turn r10.1))), (9, .dat (vint r10.2)), (10, .dat (vlst (List.map C_string r12.1))), (11, .dat (vint r12.2)), (13, .dat (vint v36)), (14, .dat (vint r39)), (15, .dat (vlst (List.map C_api_Turn v44))), (16, .dat (vlst (List.map C_string i)))]) (fun i => []) (fun i => gatelaw2_HealthTurns_J4 r10 r12 v36 r39 v44 i = some r) (fun i => rfl) (fun i => rfl) ?_ ?_
          · skip
            refine awp_seq ?_
            refine awp_plain hN rfl ?_
            refine seq_run0 (stp_move (.dat _) rfl) ?_
            refine seq_run0 (stp_eql rfl rfl) ?_
            refine awp_cond _ rfl (fun h45 => ?_) (fun h45 => ?_)
            · replace H := ift h45 H
              refine awp_plain hN rfl ?_
              refine seq_run0 (stp_move (.dat _) rfl) ?_
              refine seq_run1 (stp_loadA tyS66 rfl rfl rfl) rfl ?_
              refine seq_run0 (stp_move (.dat _) rfl) ?_
              refine seq_run0 (stp_move (.dat _) rfl) ?_
              obtain ⟨r46, h47, H⟩ := bnd H
              refine seq_run0 (stp_call (k_gateref2_UpOf r2.1 r4.1 r8.1 r6.1 r46 h47) ⟨.inl rfl, .inl rfl, .inl rfl, .inl rfl, trivial⟩) ?_
              refine seq_run0 (stp_assign (.dat _) rfl) ?_
              exact ⟨r46, H, ⟨.inl rfl, .inl rfl, .inl rfl, .inl rfl, .inl rfl, .inl rfl, .inl rfl, .inl rfl, trivial⟩, trivial⟩
            · replace H := iff_ h45 H
              refine awp_skip ?_
              exact ⟨[], H, ⟨.inl rfl, .inl rfl, .inl rfl, .inl rfl, .inl rfl, .inl rfl, .inl rfl, .inr ⟨rfl, rfl⟩, trivial⟩, trivial⟩
          · rintro v48 H
            replace H : gatelaw2_HealthTurns_J4 r10 r12 v36 r39 v44 v48 = some r := H
            unfold gatelaw2_HealthTurns_J4 at H
            refine awp_joinE (ι := Bool) (fun i => [(2, .dat (vbool i))]) (fun i => []) (fun i => gatelaw2_HealthTurns_J5 i = some r) (fun i => rfl) ?_ ?_
            · skip
              refine awp_plain hN rfl ?_
              refine seq_run0 (stp_move (.dat _) rfl) ?_
              refine seq_run0 (stp_move (.dat _) rfl) ?_
              refine seq_run0 (stp_eql rfl rfl) ?_
              refine seq_run0 (stp_move (.dat _) rfl) ?_
              refine seq_split (j := 3) rfl rfl (fun h49 => ?_) (fun h49 => ?_) rfl
              · have h50 := un1 h49
                replace H := ift h50 H
                refine seq_g0 rfl rfl h49 (stp_move (.dat _) rfl) ?_
                refine seq_g0 rfl rfl h49 (stp_move (.dat _) rfl) ?_
                obtain ⟨r51, h52, H⟩ := bnd H
                refine seq_g0 rfl rfl h49 (stp_call (k_slices_Equal_L_api_Turn_api_Turn_ r10.1 v44 r51 h52) ⟨.inl rfl, .inl rfl, trivial⟩) ?_
                refine seq_run0 (stp_pick_t rfl (bTT h50) rfl) ?_
                refine seq_run0 (stp_move (.dat _) rfl) ?_
                refine seq_split (j := 8) rfl rfl (fun h53 => ?_) (fun h53 => ?_) rfl
                · have h54 := un1 h53
                  replace H := ift h54 H
                  refine seq_g0 rfl rfl h53 (stp_move (.dat _) rfl) ?_
                  refine seq_g0 rfl rfl h53 (stp_move (.dat _) rfl) ?_
                  refine seq_g0 rfl rfl h53 (stp_eql rfl rfl) ?_
                  refine seq_run0 (stp_pick_t rfl (bTT h54) rfl) ?_
                  refine seq_run0 (stp_move (.dat _) rfl) ?_
                  refine seq_split (j := 13) rfl rfl (fun h55 => ?_) (fun h55 => ?_) rfl
                  · have h56 := un1 h55
                    replace H := ift h56 H
                    refine seq_g0 rfl rfl h55 (stp_move (.dat _) rfl) ?_
                    refine seq_g0 rfl rfl h55 (stp_move (.dat _) rfl) ?_
                    obtain ⟨r57, h58, H⟩ := bnd H
                    refine seq_g0 rfl rfl h55 (stp_call (k_slices_Equal_L_string_string_ r12.1 v48 r57 h58) ⟨.inl rfl, .inl rfl, trivial⟩) ?_
                    refine seq_run0 (stp_pick_t rfl (bTT h56) rfl) ?_
                    refine seq_run0 (stp_move (.dat _) rfl) ?_
                    refine seq_split (j := 18) rfl rfl (fun h59 => ?_) (fun h59 => ?_) rfl
                    · have h60 := un1 h59
                      replace H := ift h60 H
                      obtain ⟨r61, h62, H⟩ := bnd H
                      refine seq_g0 rfl rfl h59 (stp_call (k_gatelaw2_balanced  r61 h62) trivial) ?_
                      refine seq_run0 (stp_pick_t rfl (bTT h60) rfl) ?_
                      refine seq_run0 (stp_assign (.dat _) rfl) ?_
                      exact ⟨r61, H, ⟨rfl, trivial⟩, trivial⟩
                    · have h63 := un2 h59
                      replace H := iff_ h63 H
                      refine seq_skip rfl rfl h59 ?_
                      refine seq_run0 (stp_pick_f rfl (bFF h63) rfl) ?_
                      refine seq_run0 (stp_assign (.dat _) rfl) ?_
                      exact ⟨false, H, ⟨rfl, trivial⟩, trivial⟩
                  · have h64 := un2 h55
                    replace H := iff_ h64 H
                    refine seq_skip rfl rfl h55 ?_
                    refine seq_skip rfl rfl h55 ?_
                    refine seq_skip rfl rfl h55 ?_
                    refine seq_run0 (stp_pick_f rfl (bFF h64) rfl) ?_
                    refine seq_run0 (stp_move (.dat _) rfl) ?_
                    refine seq_skip rfl rfl rfl ?_
                    refine seq_run0 (stp_pick_f rfl rfl rfl) ?_
                    refine seq_run0 (stp_assign (.dat _) rfl) ?_
                    exact ⟨false, H, ⟨rfl, trivial⟩, trivial⟩
                · have h65 := un2 h53
                  replace H := iff_ h65 H
                  refine seq_skip rfl rfl h53 ?_
                  refine seq_skip rfl rfl h53 ?_
                  refine seq_skip rfl rfl h53 ?_
                  refine seq_run0 (stp_pick_f rfl (bFF h65) rfl) ?_
                  refine seq_run0 (stp_move (.dat _) rfl) ?_
                  refine seq_skip rfl rfl rfl ?_
                  refine seq_skip rfl rfl rfl ?_
                  refine seq_skip rfl rfl rfl ?_
                  refine seq_run0 (stp_pick_f rfl rfl rfl) ?_
                  refine seq_run0 (stp_move (.dat _) rfl) ?_
                  refine seq_skip rfl rfl rfl ?_
                  refine seq_run0 (stp_pick_f rfl rfl rfl) ?_
                  refine seq_run0 (stp_assign (.dat _) rfl) ?_
                  exact ⟨false, H, ⟨rfl, trivial⟩, trivial⟩
              · have h66 := un2 h49
                replace H := iff_ h66 H
                refine seq_skip rfl rfl h49 ?_
                refine seq_skip rfl rfl h49 ?_
                refine seq_skip rfl rfl h49 ?_
                refine seq_run0 (stp_pick_f rfl (bFF h66) rfl) ?_
                refine seq_run0 (stp_move (.dat _) rfl) ?_
                refine seq_skip rfl rfl rfl ?_
                refine seq_skip rfl rfl rfl ?_
                refine seq_skip rfl rfl rfl ?_
                refine seq_run0 (stp_pick_f rfl rfl rfl) ?_
                refine seq_run0 (stp_move (.dat _) rfl) ?_
                refine seq_skip rfl rfl rfl ?_
                refine seq_skip rfl rfl rfl ?_
                refine seq_skip rfl rfl rfl ?_
                refine seq_run0 (stp_pick_f rfl rfl rfl) ?_
                refine seq_run0 (stp_move (.dat _) rfl) ?_
                refine seq_skip rfl rfl rfl ?_
                refine seq_run0 (stp_pick_f rfl rfl rfl) ?_
                refine seq_run0 (stp_assign (.dat _) rfl) ?_
                exact ⟨false, H, ⟨rfl, trivial⟩, trivial⟩
            · rintro v67 H
              replace H : gatelaw2_HealthTurns_J5 v67 = some r := H
              unfold gatelaw2_HealthTurns_J5 at H
              refine awp_ret ?_
              cases H
              exact ⟨trivial, .inl rfl, trivial⟩
end Go.Proofs.Ytmcegaabopcmfaa
