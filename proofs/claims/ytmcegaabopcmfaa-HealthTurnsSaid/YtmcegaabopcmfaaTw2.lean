/- Walks along the models. Printed by a program. -/
import Derived.Test.YtmcegaabopcmfaaTw1
namespace Go.Proofs.Ytmcegaabopcmfaa
open Go.RowKit
set_option linter.unusedVariables false
set_option maxRecDepth 20000
theorem k_gateref2_Key (s1 : Bs) (r : (Bool)) (H : m_gateref2_Key s1 = some r) : Fn Try.prog 89 [vstr s1] (resOf [vbool r]) := by
  refine ⟨by kernel_rfl, pure_of (us := [vbool r]) Try.func89 rfl rfl rfl rfl fun X hN => ?_⟩
  unfold m_gateref2_Key at H
  refine awp_seq ?_
  refine awp_plain hN rfl ?_
  refine seq_run0 (stp_assign (.dat _) rfl) ?_
  refine awp_joinE (ι := Bool) (fun i => [(2, .dat (vbool i))]) (fun i => []) (fun i => gateref2_Key_J1 i = some r) (fun i => rfl) ?_ ?_
  · skip
    refine awp_plain hN rfl ?_
    refine seq_run0 (stp_move (.dat _) rfl) ?_
    refine seq_run0 (stp_len_str tyU9 rfl) ?_
    obtain ⟨r2, h3, H⟩ := bnd H
    refine seq_run0 (stp_call (k_gateref2_in (s1.length : Int) 1 40 r2 h3) ⟨.inl rfl, .inl rfl, .inl rfl, trivial⟩) ?_
    refine seq_run0 (stp_move (.dat _) rfl) ?_
    refine seq_split (j := 3) rfl rfl (fun h4 => ?_) (fun h4 => ?_) rfl
    · have h5 := un1 h4
      replace H := ift h5 H
      refine seq_g0 rfl rfl h4 (stp_move (.dat _) rfl) ?_
      obtain ⟨l6, h7, H⟩ := bnd H
      refine seq_g0 rfl rfl h4 (t_subS tyU9 rfl rfl rfl h7) ?_
      obtain ⟨r8, h9, H⟩ := bnd H
      refine seq_g0 rfl rfl h4 (stp_call (k_gateref2_only l6 [97, 98, 99, 100, 101, 102, 103, 104, 105, 106, 107, 108, 109, 110, 111, 112, 113, 114, 115, 116, 117, 118, 119, 120, 121, 122] r8 h9) ⟨.inl rfl, .inl rfl, trivial⟩) ?_
      refine seq_run0 (stp_pick_t rfl (bTT h5) rfl) ?_
      refine seq_run0 (stp_move (.dat _) rfl) ?_
      refine seq_split (j := 8) rfl rfl (fun h10 => ?_) (fun h10 => ?_) rfl
      · have h11 := un1 h10
        replace H := ift h11 H
        refine seq_g0 rfl rfl h10 (stp_move (.dat _) rfl) ?_
        obtain ⟨r12, h13, H⟩ := bnd H
        refine seq_g0 rfl rfl h10 (stp_call (k_gateref2_only s1 [97, 98, 99, 100, 101, 102, 103, 104, 105, 106, 107, 108, 109, 110, 111, 112, 113, 114, 115, 116, 117, 118, 119, 120, 121, 122, 48, 49, 50, 51, 52, 53, 54, 55, 56, 57, 45, 95] r12 h13) ⟨.inl rfl, .inl rfl, trivial⟩) ?_
        refine seq_run0 (stp_pick_t rfl (bTT h11) rfl) ?_
        refine seq_run0 (stp_assign (.dat _) rfl) ?_
        exact ⟨r12, H, ⟨rfl, trivial⟩, trivial⟩
      · have h14 := un2 h10
        replace H := iff_ h14 H
        refine seq_skip rfl rfl h10 ?_
        refine seq_skip rfl rfl h10 ?_
        refine seq_run0 (stp_pick_f rfl (bFF h14) rfl) ?_
        refine seq_run0 (stp_assign (.dat _) rfl) ?_
        exact ⟨false, H, ⟨rfl, trivial⟩, trivial⟩
    · have h15 := un2 h4
      replace H := iff_ h15 H
      refine seq_skip rfl rfl h4 ?_
      refine seq_skip rfl rfl h4 ?_
      refine seq_skip rfl rfl h4 ?_
      refine seq_run0 (stp_pick_f rfl (bFF h15) rfl) ?_
      refine seq_run0 (stp_move (.dat _) rfl) ?_
      refine seq_skip rfl rfl rfl ?_
      refine seq_skip rfl rfl rfl ?_
      refine seq_run0 (stp_pick_f rfl rfl rfl) ?_
      refine seq_run0 (stp_assign (.dat _) rfl) ?_
      exact ⟨false, H, ⟨rfl, trivial⟩, trivial⟩
  · rintro v16 H
    replace H : gateref2_Key_J1 v16 = some r := H
    unfold gateref2_Key_J1 at H
    refine awp_ret ?_
    cases H
    exact ⟨trivial, .inl rfl, trivial⟩
theorem k_gateref2_InstancesFault (l1 : (List S_api_Instance)) (r : (Int)) (H : m_gateref2_InstancesFault l1 = some r) : Fn Try.prog 26 [vlst (List.map C_api_Instance l1)] (resOf [vint r]) := by
  refine ⟨by kernel_rfl, pure_of (us := [vint r]) Try.func26 rfl rfl rfl rfl fun X hN => ?_⟩
  unfold m_gateref2_InstancesFault at H
  refine awp_seq ?_
  refine awp_plain hN rfl ?_
  refine seq_run0 (stp_assign (.dat _) rfl) ?_
  refine awp_seq ?_
  refine awp_seq ?_
  refine awp_plain hN rfl ?_
  refine seq_run0 (stp_move (.dat _) rfl) ?_
  refine seq_run0 (t_len tyU48 rfl) ?_
  refine seq_run0 (stp_gtr rfl rfl) ?_
  refine awp_cond _ rfl (fun h2 => ?_) (fun h2 => ?_)
  · replace H := ift h2 H
    refine awp_seq ?_
    refine awp_plain hN rfl ?_
    refine seq_run0 (stp_assign (.dat _) rfl) ?_
    refine awp_ret ?_
    cases H
    exact ⟨trivial, .inl rfl, trivial⟩
  · replace H := iff_ h2 H
    refine awp_skip ?_
    refine awp_seq ?_
    refine awp_plain hN rfl ?_
    refine seq_run0 (stp_assign (.dat _) rfl) ?_
    refine awp_seq ?_
    refine awp_seq ?_
    refine awp_plain hN rfl ?_
    refine seq_run0 (stp_move (.dat _) rfl) ?_
    refine seq_run0 (t_len tyU48 rfl) ?_
    refine seq_run0 (stp_move (.dat _) rfl) ?_
    refine awp_block ?_
    obtain ⟨h6, H⟩ := gif H
    refine awp_forL (fun (k4 : Nat) (s : Bs) => [(3, .dat (vstr s)), (9, .dat (vlst (List.map C_api_Instance l1))), (10, .dat (vint (l1.length : Int))), (11, .dat (vint (k4 : Int)))]) (fun (k4 : Nat) (s : Bs) => []) [] H ⟨rfl, rfl, rfl, rfl, trivial⟩ trivial (fun _ _ => rfl) ?_ ?_
    · rintro last3 H
      replace H : gateref2_InstancesFault_E1 last3 = some r := H
      unfold gateref2_InstancesFault_E1 at H
      refine awp_seq ?_
      refine awp_plain hN rfl ?_
      refine seq_run0 (stp_lss rfl rfl) ?_
      refine awp_seq ?_
      refine awp_cond _ rfl (fun h => (lt_t h).elim) (fun h => ?_)
      refine awp_exit ?_
      refine awp_seq ?_
      refine awp_plain hN rfl ?_
      refine seq_run0 (stp_assign (.dat _) rfl) ?_
      refine awp_ret ?_
      cases H
      exact ⟨trivial, .inl rfl, trivial⟩
    · rintro k4 x7 last3 q5 h8 h9 H hq5
      replace H : gateref2_InstancesFault_L1 k4 x7 last3 = some q5 := H
      unfold gateref2_InstancesFault_L1 at H
      refine awp_seq ?_
      refine awp_plain hN rfl ?_
      refine seq_run0 (stp_lss rfl rfl) ?_
      refine awp_seq ?_
      refine awp_cond _ rfl (fun h => ?_) (fun h => (lt_f h8 h).elim)
      refine awp_skip ?_
      refine awp_seq ?_
      refine awp_block ?_
      refine awp_seq ?_
      refine awp_plain hN rfl ?_
      refine seq_run0 (t_idx tyE48 (fun _ => rfl) rfl rfl h9) ?_
      refine seq_run0 (stp_loadEA tyS114 rfl (map_at h9) rfl) ?_
      refine seq_run2 (stp_alloc 1 tyZ114 rfl) rfl ?_
      refine seq_run2 (stp_storeW tyS114 rfl rfl rfl rfl) rfl ?_
      refine awp_seq ?_
      refine awp_block ?_
      refine awp_seq ?_
      refine awp_plain hN rfl ?_
      refine seq_run0 (stp_fldP tyF114_0 rfl) ?_
      refine seq_run1 (stp_load1 tyS9 rfl rfl) rfl ?_
      obtain ⟨r10, h11, H⟩ := bnd H
      refine seq_run0 (stp_call (k_gateref2_Key x7.Key r10 h11) ⟨.inl rfl, trivial⟩) ?_
      refine seq_run0 (stp_not rfl) ?_
      refine seq_run0 (stp_assign (.dat _) rfl) ?_
      refine awp_cond _ rfl (fun h12 => ?_) (fun h12 => ?_)
      · replace H := ift h12 H
        refine awp_seq ?_
        refine awp_plain hN rfl ?_
        refine seq_run0 (stp_assign (.dat _) rfl) ?_
        refine awp_ret ?_
        replace H := retl H hq5
        cases H
        exact ⟨trivial, .inl rfl, trivial⟩
      · replace H := iff_ h12 H
        refine awp_seq ?_
        refine awp_plain hN rfl ?_
        refine seq_run0 (stp_fldP tyF114_0 rfl) ?_
        refine seq_run1 (stp_load1 tyS9 rfl rfl) rfl ?_
        refine seq_run0 (stp_move (.dat _) rfl) ?_
        refine seq_run0 (stp_sleq rfl rfl) ?_
        refine seq_run0 (stp_assign (.dat _) rfl) ?_
        refine awp_cond _ rfl (fun h13 => ?_) (fun h13 => ?_)
        · replace H := ift h13 H
          refine awp_seq ?_
          refine awp_plain hN rfl ?_
          refine seq_run0 (stp_assign (.dat _) rfl) ?_
          refine awp_ret ?_
          replace H := retl H hq5
          cases H
          exact ⟨trivial, .inl rfl, trivial⟩
        · replace H := iff_ h13 H
          refine awp_seq ?_
          refine awp_plain hN rfl ?_
          refine seq_run0 (stp_fldP tyF114_1 rfl) ?_
          refine seq_run1 (stp_load1 tyS3 rfl rfl) rfl ?_
          obtain ⟨r14, h15, H⟩ := bnd H
          refine seq_run0 (stp_call (k_gateref2_in x7.Weight 1 100 r14 h15) ⟨.inl rfl, .inl rfl, .inl rfl, trivial⟩) ?_
          refine seq_run0 (stp_not rfl) ?_
          refine seq_run0 (stp_assign (.dat _) rfl) ?_
          refine awp_cond _ rfl (fun h16 => ?_) (fun h16 => ?_)
          · replace H := ift h16 H
            refine awp_seq ?_
            refine awp_plain hN rfl ?_
            refine seq_run0 (stp_assign (.dat _) rfl) ?_
            refine awp_ret ?_
            replace H := retl H hq5
            cases H
            exact ⟨trivial, .inl rfl, trivial⟩
          · replace H := iff_ h16 H
            refine awp_skip ?_
            refine awp_plain hN rfl ?_
            refine seq_run0 (stp_fldP tyF114_0 rfl) ?_
            refine seq_run1 (stp_load1 tyS9 rfl rfl) rfl ?_
            refine seq_run0 (stp_assign (.dat _) rfl) ?_
            refine awp_plain hN rfl ?_
            refine seq_run0 (stp_add rfl rfl (by omega)) ?_
            refine seq_run0 (stp_move (.dat _) rfl) ?_
            exact ⟨_, backl H, ⟨rfl, rfl, rfl, rfl, trivial⟩, trivial⟩
theorem k_slices_IndexFunc_L_api_Instance_api_Instance_ (s1 : (List S_api_Instance)) (p1 : S_api_Instance → Option (Bool)) (fv1 : Nat) (us1 : List V) (hp1 : ∀ a0 r, p1 a0 = some r → Fn Try.prog fv1 ([vagg (C_api_Instance a0)] ++ us1) (resOf [vbool r])) (r : (Int)) (H : m_slices_IndexFunc_L_api_Instance_api_Instance_ s1 p1 = some r) : Fn Try.prog 121 [vlst (List.map C_api_Instance s1), vfn fv1 us1] (resOf [vint r]) := by
  refine ⟨by kernel_rfl, pure_of (us := [vint r]) Try.func121 rfl rfl rfl rfl fun X hN => ?_⟩
  unfold m_slices_IndexFunc_L_api_Instance_api_Instance_ at H
  refine awp_seq ?_
  refine awp_plain hN rfl ?_
  refine seq_run0 (stp_assign (.dat _) rfl) ?_
  refine awp_seq ?_
  refine awp_seq ?_
  refine awp_plain hN rfl ?_
  refine seq_run0 (stp_move (.dat _) rfl) ?_
  refine seq_run0 (t_len tyU48 rfl) ?_
  refine seq_run0 (stp_move (.dat _) rfl) ?_
  refine awp_block ?_
  obtain ⟨h4, H⟩ := gif H
  refine awp_forL (fun (k2 : Nat) (s : Unit) => [(0, .dat (vlst (List.map C_api_Instance s1))), (1, .dat (vfn fv1 us1)), (7, .dat (vint (s1.length : Int))), (8, .dat (vint (k2 : Int)))]) (fun (k2 : Nat) (s : Unit) => []) () H ⟨rfl, rfl, rfl, rfl, trivial⟩ trivial (fun _ _ => rfl) ?_ ?_
  · rintro ⟨⟩ H
    replace H : slices_IndexFunc_L_api_Instance_api_Instance__E1 = some r := H
    unfold slices_IndexFunc_L_api_Instance_api_Instance__E1 at H
    refine awp_seq ?_
    refine awp_plain hN rfl ?_
    refine seq_run0 (stp_lss rfl rfl) ?_
    refine awp_seq ?_
    refine awp_cond _ rfl (fun h => (lt_t h).elim) (fun h => ?_)
    refine awp_exit ?_
    refine awp_seq ?_
    refine awp_plain hN rfl ?_
    refine seq_run0 (stp_assign (.dat _) rfl) ?_
    refine awp_ret ?_
    cases H
    exact ⟨trivial, .inl rfl, trivial⟩
  · rintro k2 x5 ⟨⟩ q3 h6 h7 H hq3
    replace H : slices_IndexFunc_L_api_Instance_api_Instance__L1 p1 k2 x5 = some q3 := H
    unfold slices_IndexFunc_L_api_Instance_api_Instance__L1 at H
    refine awp_seq ?_
    refine awp_plain hN rfl ?_
    refine seq_run0 (stp_lss rfl rfl) ?_
    refine awp_seq ?_
    refine awp_cond _ rfl (fun h => ?_) (fun h => (lt_f h6 h).elim)
    refine awp_skip ?_
    refine awp_seq ?_
    refine awp_block ?_
    refine awp_seq ?_
    refine awp_plain hN rfl ?_
    refine seq_run0 (stp_move (.dat _) rfl) ?_
    refine seq_run0 (stp_assign (.dat _) rfl) ?_
    refine awp_seq ?_
    refine awp_plain hN rfl ?_
    refine seq_run0 (stp_move (.dat _) rfl) ?_
    refine seq_run0 (stp_move (.dat _) rfl) ?_
    refine seq_run0 (stp_move (.dat _) rfl) ?_
    refine seq_run0 (t_idx tyE48 (fun _ => rfl) rfl rfl h7) ?_
    refine seq_run0 (stp_loadEA tyS114 rfl (map_at h7) rfl) ?_
    obtain ⟨r8, h9, H⟩ := bnd H
    refine seq_run0 (stp_callv (hp1 x5 r8 h9) rfl ⟨.inl rfl, trivial⟩) ?_
    refine awp_cond _ rfl (fun h10 => ?_) (fun h10 => ?_)
    · replace H := ift h10 H
      refine awp_seq ?_
      refine awp_plain hN rfl ?_
      refine seq_run0 (stp_move (.dat _) rfl) ?_
      refine seq_run0 (stp_assign (.dat _) rfl) ?_
      refine awp_ret ?_
      replace H := retl H hq3
      cases H
      exact ⟨trivial, .inl rfl, trivial⟩
    · replace H := iff_ h10 H
      refine awp_skip ?_
      refine awp_plain hN rfl ?_
      refine seq_run0 (stp_add rfl rfl (by omega)) ?_
      refine seq_run0 (stp_move (.dat _) rfl) ?_
      exact ⟨_, backl H, ⟨rfl, rfl, rfl, rfl, trivial⟩, trivial⟩
theorem k_gateref2_InstanceAt_1 (x1 : S_api_Instance) (c2 : Bs) (r : (Bool)) (H : m_gateref2_InstanceAt_1 x1 c2 = some r) : Fn Try.prog 122 [vagg (C_api_Instance x1), vcell [[vstr c2]] 0 0] (resOf [vbool r]) := by
  refine ⟨by kernel_rfl, pure_of (us := [vbool r]) Try.func122 rfl rfl rfl rfl fun X hN => ?_⟩
  unfold m_gateref2_InstanceAt_1 at H
  refine awp_seq ?_
  refine awp_plain hN rfl ?_
  refine seq_run2 (stp_boxA 1 rfl) rfl ?_
  refine seq_run0 (stp_assign (.dat _) rfl) ?_
  refine awp_seq ?_
  refine awp_plain hN rfl ?_
  refine seq_run0 (stp_fldP tyF114_0 rfl) ?_
  refine seq_run1 (stp_load1 tyS9 rfl rfl) rfl ?_
  refine seq_run0 (stp_loadE1 tyS9 rfl rfl rfl) ?_
  refine seq_run0 (stp_seql rfl rfl) ?_
  refine seq_run0 (stp_assign (.dat _) rfl) ?_
  refine awp_ret ?_
  cases H
  exact ⟨trivial, .inl rfl, trivial⟩
theorem k_gateref2_InstanceAt (l1 : (List S_api_Instance)) (key2 : Bs) (r : (Int)) (H : m_gateref2_InstanceAt l1 key2 = some r) : Fn Try.prog 90 [vlst (List.map C_api_Instance l1), vstr key2] (resOf [vint r]) := by
  refine ⟨by kernel_rfl, pure_of (us := [vint r]) Try.func90 rfl rfl rfl rfl fun X hN => ?_⟩
  unfold m_gateref2_InstanceAt at H
  refine awp_seq ?_
  refine awp_plain hN rfl ?_
  refine seq_run2 (stp_box1 1 rfl rfl) rfl ?_
  refine seq_run0 (stp_assign (.dat _) rfl) ?_
  refine awp_seq ?_
  refine awp_frzB 1 [vstr key2] rfl rfl ?_
  refine awp_plain hN rfl ?_
  refine seq_run0 (stp_move (.dat _) rfl) ?_
  refine seq_run0 (stp_mkfn (us := [_]) ⟨rfl, trivial⟩) ?_
  obtain ⟨r3, h4, H⟩ := bnd H
  refine seq_run0 (stp_call (k_slices_IndexFunc_L_api_Instance_api_Instance_ l1 (fun (a0 : S_api_Instance) => m_gateref2_InstanceAt_1 a0 key2) 122 [vcell [[vstr key2]] 0 0] (fun a0 r h => k_gateref2_InstanceAt_1 a0 key2 r h) r3 h4) ⟨.inl rfl, .inl rfl, trivial⟩) ?_
  refine seq_run0 (stp_assign (.dat _) rfl) ?_
  refine awp_ret ?_
  cases H
  exact ⟨trivial, .inl rfl, trivial⟩
theorem k_gateref2_PhasesFault (v1 : (List S_api_Instance)) (v2 : (List S_api_Phase)) (r : (Int)) (H : m_gateref2_PhasesFault v1 v2 = some r) : Fn Try.prog 27 [vlst (List.map C_api_Instance v1), vlst (List.map C_api_Phase v2)] (resOf [vint r]) := by
  refine ⟨by kernel_rfl, pure_of (us := [vint r]) Try.func27 rfl rfl rfl rfl fun X hN => ?_⟩
  unfold m_gateref2_PhasesFault at H
  refine awp_seq ?_
  refine awp_plain hN rfl ?_
  refine seq_run0 (stp_assign (.dat _) rfl) ?_
  refine awp_seq ?_
  refine awp_seq ?_
  refine awp_plain hN rfl ?_
  refine seq_run0 (stp_move (.dat _) rfl) ?_
  refine seq_run0 (t_len tyU58 rfl) ?_
  refine seq_run0 (stp_gtr rfl rfl) ?_
  refine awp_cond _ rfl (fun h3 => ?_) (fun h3 => ?_)
  · replace H := ift h3 H
    refine awp_seq ?_
    refine awp_plain hN rfl ?_
    refine seq_run0 (stp_assign (.dat _) rfl) ?_
    refine awp_ret ?_
    cases H
    exact ⟨trivial, .inl rfl, trivial⟩
  · replace H := iff_ h3 H
    refine awp_skip ?_
    refine awp_seq ?_
    refine awp_seq ?_
    refine awp_plain hN rfl ?_
    refine seq_run0 (stp_move (.dat _) rfl) ?_
    refine seq_run0 (t_len tyU58 rfl) ?_
    refine seq_run0 (stp_move (.dat _) rfl) ?_
    refine awp_block ?_
    obtain ⟨h6, H⟩ := gif H
    refine awp_forL (fun (k4 : Nat) (s : Unit) => [(0, .dat (vlst (List.map C_api_Instance v1))), (1, .dat (vlst (List.map C_api_Phase v2))), (10, .dat (vlst (List.map C_api_Phase v2))), (11, .dat (vint (v2.length : Int))), (12, .dat (vint (k4 : Int)))]) (fun (k4 : Nat) (s : Unit) => []) () H ⟨rfl, rfl, rfl, rfl, rfl, trivial⟩ trivial (fun _ _ => rfl) ?_ ?_
    · rintro ⟨⟩ H
      replace H : gateref2_PhasesFault_E1 = some r := H
      unfold gateref2_PhasesFault_E1 at H
      refine awp_seq ?_
      refine awp_plain hN rfl ?_
      refine seq_run0 (stp_lss rfl rfl) ?_
      refine awp_seq ?_
      refine awp_cond _ rfl (fun h => (lt_t h).elim) (fun h => ?_)
      refine awp_exit ?_
      refine awp_seq ?_
      refine awp_plain hN rfl ?_
      refine seq_run0 (stp_assign (.dat _) rfl) ?_
      refine awp_ret ?_
      cases H
      exact ⟨trivial, .inl rfl, trivial⟩
    · rintro k4 x7 ⟨⟩ q5 h8 h9 H hq5
      replace H : gateref2_PhasesFault_L1 v1 v2 k4 x7 = some q5 := H
      unfold gateref2_PhasesFault_L1 at H
      refine awp_seq ?_
      refine awp_plain hN rfl ?_
      refine seq_run0 (stp_lss rfl rfl) ?_
      refine awp_seq ?_
      refine awp_cond _ rfl (fun h => ?_) (fun h => (lt_f h8 h).elim)
      refine awp_skip ?_
      refine awp_seq ?_
      refine awp_block ?_
      refine awp_seq ?_
      refine awp_plain hN rfl ?_
      refine seq_run0 (stp_move (.dat _) rfl) ?_
      refine seq_run0 (t_idx tyE58 (fun _ => rfl) rfl rfl h9) ?_
      refine seq_run0 (stp_loadEA tyS125 rfl (map_at h9) rfl) ?_
      refine seq_run2 (stp_alloc 1 tyZ125 rfl) rfl ?_
      refine seq_run0 (stp_assign (.dat _) rfl) ?_
      refine seq_run2 (stp_storeW tyS125 rfl rfl rfl rfl) rfl ?_
      refine awp_block ?_
      refine awp_seq ?_
      refine awp_plain hN rfl ?_
      refine seq_run0 (stp_move (.dat _) rfl) ?_
      refine seq_run0 (stp_fldP tyF125_0 rfl) ?_
      refine seq_run1 (stp_load1 tyS9 rfl rfl) rfl ?_
      obtain ⟨r10, h11, H⟩ := bnd H
      refine seq_run0 (stp_call (k_gateref2_InstanceAt v1 x7.Instance r10 h11) ⟨.inl rfl, .inl rfl, trivial⟩) ?_
      refine seq_run0 (stp_lss rfl rfl) ?_
      refine seq_run0 (stp_assign (.dat _) rfl) ?_
      refine awp_cond _ rfl (fun h12 => ?_) (fun h12 => ?_)
      · replace H := ift h12 H
        refine awp_seq ?_
        refine awp_plain hN rfl ?_
        refine seq_run0 (stp_assign (.dat _) rfl) ?_
        refine awp_ret ?_
        replace H := retl H hq5
        cases H
        exact ⟨trivial, .inl rfl, trivial⟩
      · replace H := iff_ h12 H
        refine awp_joinE (ι := Bool) (fun i => [(0, .dat (vlst (List.map C_api_Instance v1))), (1, .dat (vlst (List.map C_api_Phase v2))), (5, .dat (vint (k4 : Int))), (6, .ptr 1 0), (10, .dat (vlst (List.map C_api_Phase v2))), (11, .dat (vint (v2.length : Int))), (12, .dat (vint (k4 : Int))), (23, .dat (vbool i))]) (fun i => [(1, .box none 125 [.dat (vstr x7.Instance), .dat (vint x7.Time.From), .dat (vint x7.Time.To), .dat (vint x7.Status), .dat (vint x7.Took)])]) (fun i => gateref2_PhasesFault_J2 v2 k4 x7 i = some q5) (fun i => rfl) ?_ ?_
        · skip
          refine awp_plain hN rfl ?_
          refine seq_run0 (stp_fldP tyF125_1 rfl) ?_
          refine seq_run0 (stp_fldP tyF123_0 rfl) ?_
          refine seq_run1 (stp_load1 tyS3 rfl rfl) rfl ?_
          refine seq_run0 (stp_lss rfl rfl) ?_
          refine seq_run0 (stp_move (.dat _) rfl) ?_
          refine seq_split (j := 4) rfl rfl (fun h13 => ?_) (fun h13 => ?_) rfl
          · have h14 := un3 h13
            replace H := iff_ h14 H
            refine seq_g0 rfl rfl h13 (stp_fldP tyF125_1 rfl) ?_
            refine seq_g0 rfl rfl h13 (stp_fldP tyF123_0 rfl) ?_
            refine seq_g1 rfl rfl h13 (stp_load1 tyS3 rfl rfl) rfl ?_
            refine seq_g0 rfl rfl h13 (stp_fldP tyF125_1 rfl) ?_
            refine seq_g0 rfl rfl h13 (stp_fldP tyF123_1 rfl) ?_
            refine seq_g1 rfl rfl h13 (stp_load1 tyS3 rfl rfl) rfl ?_
            refine seq_g0 rfl rfl h13 (stp_geq rfl rfl) ?_
            refine seq_run0 (stp_pick_f rfl (bFF h14) rfl) ?_
            refine seq_run0 (stp_move (.dat _) rfl) ?_
            refine seq_split (j := 13) rfl rfl (fun h15 => ?_) (fun h15 => ?_) rfl
            · have h16 := un3 h15
              replace H := iff_ h16 H
              refine seq_g0 rfl rfl h15 (stp_fldP tyF125_1 rfl) ?_
              refine seq_g0 rfl rfl h15 (stp_fldP tyF123_1 rfl) ?_
              refine seq_g1 rfl rfl h15 (stp_load1 tyS3 rfl rfl) rfl ?_
              refine seq_g0 rfl rfl h15 (stp_gtr rfl rfl) ?_
              refine seq_run0 (stp_pick_f rfl (bFF h16) rfl) ?_
              refine seq_run0 (stp_move (.dat _) rfl) ?_
              refine seq_split (j := 19) rfl rfl (fun h17 => ?_) (fun h17 => ?_) rfl
              · have h18 := un3 h17
                replace H := iff_ h18 H
                refine seq_g0 rfl rfl h17 (stp_fldP tyF125_2 rfl) ?_
                refine seq_g1 rfl rfl h17 (stp_load1 tyS3 rfl rfl) rfl ?_
                obtain ⟨r19, h20, H⟩ := bnd H
                refine seq_g0 rfl rfl h17 (stp_call (k_gateref2_in x7.Status 100 599 r19 h20) ⟨.inl rfl, .inl rfl, .inl rfl, trivial⟩) ?_
                refine seq_g0 rfl rfl h17 (stp_not rfl) ?_
                refine seq_run0 (stp_pick_f rfl (bFF h18) rfl) ?_
                refine seq_run0 (stp_move (.dat _) rfl) ?_
                refine seq_split (j := 25) rfl rfl (fun h21 => ?_) (fun h21 => ?_) rfl
                · have h22 := un3 h21
                  replace H := iff_ h22 H
                  refine seq_g0 rfl rfl h21 (stp_fldP tyF125_3 rfl) ?_
                  refine seq_g1 rfl rfl h21 (stp_load1 tyS3 rfl rfl) rfl ?_
                  obtain ⟨r23, h24, H⟩ := bnd H
                  refine seq_g0 rfl rfl h21 (stp_call (k_gateref2_in x7.Took 0 3600000 r23 h24) ⟨.inl rfl, .inl rfl, .inl rfl, trivial⟩) ?_
                  refine seq_g0 rfl rfl h21 (stp_not rfl) ?_
                  refine seq_run0 (stp_pick_f rfl (bFF h22) rfl) ?_
                  refine seq_run0 (stp_assign (.dat _) rfl) ?_
                  exact ⟨!r23, H, ⟨rfl, rfl, rfl, rfl, rfl, rfl, rfl, rfl, trivial⟩, ⟨rfl, trivial⟩⟩
                · have h25 := un4 h21
                  replace H := ift h25 H
                  refine seq_skip rfl rfl h21 ?_
                  refine seq_skip rfl rfl h21 ?_
                  refine seq_skip rfl rfl h21 ?_
                  refine seq_skip rfl rfl h21 ?_
                  refine seq_run0 (stp_pick_t rfl (bTT h25) rfl) ?_
                  refine seq_run0 (stp_assign (.dat _) rfl) ?_
                  exact ⟨true, H, ⟨rfl, rfl, rfl, rfl, rfl, rfl, rfl, rfl, trivial⟩, ⟨rfl, trivial⟩⟩
              · have h26 := un4 h17
                replace H := ift h26 H
                refine seq_skip rfl rfl h17 ?_
                refine seq_skip rfl rfl h17 ?_
                refine seq_skip rfl rfl h17 ?_
                refine seq_skip rfl rfl h17 ?_
                refine seq_run0 (stp_pick_t rfl (bTT h26) rfl) ?_
                refine seq_run0 (stp_move (.dat _) rfl) ?_
                refine seq_skip rfl rfl rfl ?_
                refine seq_skip rfl rfl rfl ?_
                refine seq_skip rfl rfl rfl ?_
                refine seq_skip rfl rfl rfl ?_
                refine seq_run0 (stp_pick_t rfl rfl rfl) ?_
                refine seq_run0 (stp_assign (.dat _) rfl) ?_
                exact ⟨true, H, ⟨rfl, rfl, rfl, rfl, rfl, rfl, rfl, rfl, trivial⟩, ⟨rfl, trivial⟩⟩
            · have h27 := un4 h15
              replace H := ift h27 H
              refine seq_skip rfl rfl h15 ?_
              refine seq_skip rfl rfl h15 ?_
              refine seq_skip rfl rfl h15 ?_
              refine seq_skip rfl rfl h15 ?_
              refine seq_run0 (stp_pick_t rfl (bTT h27) rfl) ?_
              refine seq_run0 (stp_move (.dat _) rfl) ?_
              refine seq_skip rfl rfl rfl ?_
              refine seq_skip rfl rfl rfl ?_
              refine seq_skip rfl rfl rfl ?_
              refine seq_skip rfl rfl rfl ?_
              refine seq_run0 (stp_pick_t rfl rfl rfl) ?_
              refine seq_run0 (stp_move (.dat _) rfl) ?_
              refine seq_skip rfl rfl rfl ?_
              refine seq_skip rfl rfl rfl ?_
              refine seq_skip rfl rfl rfl ?_
              refine seq_skip rfl rfl rfl ?_
              refine seq_run0 (stp_pick_t rfl rfl rfl) ?_
              refine seq_run0 (stp_assign (.dat _) rfl) ?_
              exact ⟨true, H, ⟨rfl, rfl, rfl, rfl, rfl, rfl, rfl, rfl, trivial⟩, ⟨rfl, trivial⟩⟩
          · have h28 := un4 h13
            replace H := ift h28 H
            refine seq_skip rfl rfl h13 ?_
            refine seq_skip rfl rfl h13 ?_
            refine seq_skip rfl rfl h13 ?_
            refine seq_skip rfl rfl h13 ?_
            refine seq_skip rfl rfl h13 ?_
            refine seq_skip rfl rfl h13 ?_
            refine seq_skip rfl rfl h13 ?_
            refine seq_run0 (stp_pick_t rfl (bTT h28) rfl) ?_
            refine seq_run0 (stp_move (.dat _) rfl) ?_
            refine seq_skip rfl rfl rfl ?_
            refine seq_skip rfl rfl rfl ?_
            refine seq_skip rfl rfl rfl ?_
            refine seq_skip rfl rfl rfl ?_
            refine seq_run0 (stp_pick_t rfl rfl rfl) ?_
            refine seq_run0 (stp_move (.dat _) rfl) ?_
            refine seq_skip rfl rfl rfl ?_
            refine seq_skip rfl rfl rfl ?_
            refine seq_skip rfl rfl rfl ?_
            refine seq_skip rfl rfl rfl ?_
            refine seq_run0 (stp_pick_t rfl rfl rfl) ?_
            refine seq_run0 (stp_move (.dat _) rfl) ?_
            refine seq_skip rfl rfl rfl ?_
            refine seq_skip rfl rfl rfl ?_
            refine seq_skip rfl rfl rfl ?_
            refine seq_skip rfl rfl rfl ?_
            refine seq_run0 (stp_pick_t rfl rfl rfl) ?_
            refine seq_run0 (stp_assign (.dat _) rfl) ?_
            exact ⟨true, H, ⟨rfl, rfl, rfl, rfl, rfl, rfl, rfl, rfl, trivial⟩, ⟨rfl, trivial⟩⟩
        · rintro v29 H
          replace H : gateref2_PhasesFault_J2 v2 k4 x7 v29 = some q5 := H
          unfold gateref2_PhasesFault_J2 at H
          refine awp_cond _ rfl (fun h30 => ?_) (fun h30 => ?_)
          · replace H := ift h30 H
            refine awp_seq ?_
            refine awp_plain hN rfl ?_
            refine seq_run0 (stp_assign (.dat _) rfl) ?_
            refine awp_ret ?_
            replace H := retl H hq5
            cases H
            exact ⟨trivial, .inl rfl, trivial⟩
          · replace H := iff_ h30 H
            refine awp_joinE (ι := Bool) (fun i => [(0, .dat (vlst (List.map C_api_Instance v1))), (1, .dat (vlst (List.map C_api_Phase v2))), (10, .dat (vlst (List.map C_api_Phase v2))), (11, .dat (vint (v2.length : Int))), (12, .dat (vint (k4 : Int))), (55, .dat (vbool i))]) (fun i => []) (fun i => gateref2_PhasesFault_J3 i = some q5) (fun i => rfl) ?_ ?_
            · skip
              refine awp_draw mixed hN rfl rfl ?_
              refine seq_run0 (stp_move (.dat _) rfl) ?_
              refine seq_run0 (stp_gtr rfl rfl) ?_
              refine seq_run0 (stp_move (.dat _) rfl) ?_
              refine seq_split (j := 2) rfl rfl (fun h31 => ?_) (fun h31 => ?_) rfl
              · have h32 := un1 h31
                replace H := ift h32 H
                refine seq_g0 rfl rfl h31 (stp_fldP tyF125_0 rfl) ?_
                refine seq_g1 rfl rfl h31 (stp_load1 tyS9 rfl rfl) rfl ?_
                refine seq_g0 rfl rfl h31 (stp_move (.dat _) rfl) ?_
                refine seq_g0 rfl rfl h31 (stp_move (.dat _) rfl) ?_
                refine seq_g0 rfl rfl h31 (stp_sub rfl rfl (by omega)) ?_
                obtain ⟨x33, h34, H⟩ := bnd H
                refine seq_g0 rfl rfl h31 (t_idxI tyE58 (fun _ => rfl) rfl rfl h34) ?_
                refine seq_g0 rfl rfl h31 (stp_fldE tyF125_0 rfl) ?_
                refine seq_g0 rfl rfl h31 (stp_loadE1 tyS9 rfl (map_at (at_some h34).2) rfl) ?_
                refine seq_g0 rfl rfl h31 (stp_slss rfl rfl) ?_
                refine seq_g0 rfl rfl h31 (stp_move (.dat _) rfl) ?_
                refine seq_split (j := 12) rfl rfl (fun h35 => ?_) (fun h35 => ?_) rfl
                · have h36 := un3 h35
                  replace H := iff_ h36 H
                  refine seq_g0 rfl rfl h35 (stp_fldP tyF125_0 rfl) ?_
                  refine seq_g1 rfl rfl h35 (stp_load1 tyS9 rfl rfl) rfl ?_
                  refine seq_g0 rfl rfl h35 (stp_move (.dat _) rfl) ?_
                  refine seq_g0 rfl rfl h35 (stp_move (.dat _) rfl) ?_
                  refine seq_g0 rfl rfl h35 (stp_sub rfl rfl (by omega)) ?_
                  refine seq_g0 rfl rfl h35 (t_idxI tyE58 (fun _ => rfl) rfl rfl h34) ?_
                  refine seq_g0 rfl rfl h35 (stp_fldE tyF125_0 rfl) ?_
                  refine seq_g0 rfl rfl h35 (stp_loadE1 tyS9 rfl (map_at (at_some h34).2) rfl) ?_
                  refine seq_g0 rfl rfl h35 (stp_seql rfl rfl) ?_
                  refine seq_g0 rfl rfl h35 (stp_move (.dat _) rfl) ?_
                  refine seq_split (j := 22) rfl rfl (fun h37 => ?_) (fun h37 => ?_) rfl
                  · have h38 := un1 h37
                    replace H := ift h38 H
                    refine seq_g0 rfl rfl h37 (stp_fldP tyF125_1 rfl) ?_
                    refine seq_g0 rfl rfl h37 (stp_fldP tyF123_0 rfl) ?_
                    refine seq_g1 rfl rfl h37 (stp_load1 tyS3 rfl rfl) rfl ?_
                    refine seq_g0 rfl rfl h37 (stp_move (.dat _) rfl) ?_
                    refine seq_g0 rfl rfl h37 (stp_move (.dat _) rfl) ?_
                    refine seq_g0 rfl rfl h37 (stp_sub rfl rfl (by omega)) ?_
                    refine seq_g0 rfl rfl h37 (t_idxI tyE58 (fun _ => rfl) rfl rfl h34) ?_
                    refine seq_g0 rfl rfl h37 (stp_fldE tyF125_1 rfl) ?_
                    refine seq_g0 rfl rfl h37 (stp_fldE tyF123_1 rfl) ?_
                    refine seq_g0 rfl rfl h37 (stp_loadE1 tyS3 rfl (map_at (at_some h34).2) rfl) ?_
                    refine seq_g0 rfl rfl h37 (stp_lss rfl rfl) ?_
                    refine seq_g0 rfl rfl h35 (stp_pick_t rfl (bTT h38) rfl) ?_
                    refine seq_g0 rfl rfl h31 (stp_pick_f rfl (bFF h36) rfl) ?_
                    refine seq_run0 (stp_pick_t rfl (bTT h32) rfl) ?_
                    refine seq_run0 (stp_assign (.dat _) rfl) ?_
                    refine ⟨rfl, ?_⟩
                    exact ⟨decide (x7.Time.From < x33.Time.To), H, ⟨rfl, rfl, rfl, rfl, rfl, rfl, trivial⟩, trivial⟩
                  · have h39 := un2 h37
                    replace H := iff_ h39 H
                    refine seq_skip rfl rfl h37 ?_
                    refine seq_skip rfl rfl h37 ?_
                    refine seq_skip rfl rfl h37 ?_
                    refine seq_skip rfl rfl h37 ?_
                    refine seq_skip rfl rfl h37 ?_
                    refine seq_skip rfl rfl h37 ?_
                    refine seq_skip rfl rfl h37 ?_
                    refine seq_skip rfl rfl h37 ?_
                    refine seq_skip rfl rfl h37 ?_
                    refine seq_skip rfl rfl h37 ?_
                    refine seq_skip rfl rfl h37 ?_
                    refine seq_g0 rfl rfl h35 (stp_pick_f rfl (bFF h39) rfl) ?_
                    refine seq_g0 rfl rfl h31 (stp_pick_f rfl (bFF h36) rfl) ?_
                    refine seq_run0 (stp_pick_t rfl (bTT h32) rfl) ?_
                    refine seq_run0 (stp_assign (.dat _) rfl) ?_
                    refine ⟨rfl, ?_⟩
                    exact ⟨false, H, ⟨rfl, rfl, rfl, rfl, rfl, rfl, trivial⟩, trivial⟩
                · have h40 := un4 h35
                  replace H := ift h40 H
                  refine seq_skip rfl rfl h35 ?_
                  refine seq_skip rfl rfl h35 ?_
                  refine seq_skip rfl rfl h35 ?_
                  refine seq_skip rfl rfl h35 ?_
                  refine seq_skip rfl rfl h35 ?_
                  refine seq_skip rfl rfl h35 ?_
                  refine seq_skip rfl rfl h35 ?_
                  refine seq_skip rfl rfl h35 ?_
                  refine seq_skip rfl rfl h35 ?_
                  refine seq_skip rfl rfl h35 ?_
                  refine seq_skipU rfl rfl ?_
                  refine seq_skipU rfl rfl ?_
                  refine seq_skipU rfl rfl ?_
                  refine seq_skipU rfl rfl ?_
                  refine seq_skipU rfl rfl ?_
                  refine seq_skipU rfl rfl ?_
                  refine seq_skipU rfl rfl ?_
                  refine seq_skipU rfl rfl ?_
                  refine seq_skipU rfl rfl ?_
                  refine seq_skipU rfl rfl ?_
                  refine seq_skipU rfl rfl ?_
                  refine seq_skip rfl rfl h35 ?_
                  refine seq_g0 rfl rfl h31 (stp_pick_t rfl (bTT h40) rfl) ?_
                  refine seq_run0 (stp_pick_t rfl (bTT h32) rfl) ?_
                  refine seq_run0 (stp_assign (.dat _) rfl) ?_
                  refine ⟨rfl, ?_⟩
                  exact ⟨true, H, ⟨rfl, rfl, rfl, rfl, rfl, rfl, trivial⟩, trivial⟩
              · have h41 := un2 h31
                replace H := iff_ h41 H
                refine seq_skip rfl rfl h31 ?_
                refine seq_skip rfl rfl h31 ?_
                refine seq_skip rfl rfl h31 ?_
                refine seq_skip rfl rfl h31 ?_
                refine seq_skip rfl rfl h31 ?_
                refine seq_skip rfl rfl h31 ?_
                refine seq_skip rfl rfl h31 ?_
                refine seq_skip rfl rfl h31 ?_
                refine seq_skip rfl rfl h31 ?_
                refine seq_skip rfl rfl h31 ?_
                refine seq_skipU rfl rfl ?_
                refine seq_skipU rfl rfl ?_
                refine seq_skipU rfl rfl ?_
                refine seq_skipU rfl rfl ?_
                refine seq_skipU rfl rfl ?_
                refine seq_skipU rfl rfl ?_
                refine seq_skipU rfl rfl ?_
                refine seq_skipU rfl rfl ?_
                refine seq_skipU rfl rfl ?_
                refine seq_skipU rfl rfl ?_
                refine seq_skipU rfl rfl ?_
                refine seq_skipU rfl rfl ?_
                refine seq_skipU rfl rfl ?_
                refine seq_skipU rfl rfl ?_
                refine seq_skipU rfl rfl ?_
                refine seq_skipU rfl rfl ?_
                refine seq_skipU rfl rfl ?_
                refine seq_skipU rfl rfl ?_
                refine seq_skipU rfl rfl ?_
                refine seq_skipU rfl rfl ?_
                refine seq_skipU rfl rfl ?_
                refine seq_skipU rfl rfl ?_
                refine seq_skip rfl rfl h31 ?_
                refine seq_run0 (stp_pick_f rfl (bFF h41) rfl) ?_
                refine seq_run0 (stp_assign (.dat _) rfl) ?_
                refine ⟨rfl, ?_⟩
                exact ⟨false, H, ⟨rfl, rfl, rfl, rfl, rfl, rfl, trivial⟩, trivial⟩
            · rintro v42 H
              replace H : gateref2_PhasesFault_J3 v42 = some q5 := H
              unfold gateref2_PhasesFault_J3 at H
              refine awp_cond _ rfl (fun h43 => ?_) (fun h43 => ?_)
              · replace H := ift h43 H
                refine awp_seq ?_
                refine awp_plain hN rfl ?_
                refine seq_run0 (stp_assign (.dat _) rfl) ?_
                refine awp_ret ?_
                replace H := retl H hq5
                cases H
                exact ⟨trivial, .inl rfl, trivial⟩
              · replace H := iff_ h43 H
                refine awp_skip ?_
                refine awp_plain hN rfl ?_
                refine seq_run0 (stp_add rfl rfl (by omega)) ?_
                refine seq_run0 (stp_move (.dat _) rfl) ?_
                exact ⟨_, backl H, ⟨rfl, rfl, rfl, rfl, rfl, trivial⟩, trivial⟩
theorem k_kit_IsKey (s1 : Bs) (r : (Bool)) (H : m_kit_IsKey s1 = some r) : Fn Try.prog 92 [vstr s1] (resOf [vbool r]) := by
  refine ⟨by kernel_rfl, pure_of (us := [vbool r]) Try.func92 rfl rfl rfl rfl fun X hN => ?_⟩
  unfold m_kit_IsKey at H
  refine awp_seq ?_
  refine awp_plain hN rfl ?_
  refine seq_run0 (stp_assign (.dat _) rfl) ?_
  refine awp_seq ?_
  refine awp_seq ?_
  refine awp_plain hN rfl ?_
  refine seq_run0 (stp_assign (.dat _) rfl) ?_
  refine awp_block ?_
  obtain ⟨h4, H⟩ := gif H
  refine awp_forL (fun (i2 : Nat) (s : Unit) => [(0, .dat (vstr s1)), (3, .dat (vint (i2 : Int)))]) (fun (i2 : Nat) (s : Unit) => []) () H ⟨rfl, rfl, trivial⟩ trivial (fun _ _ => rfl) ?_ ?_
  · rintro ⟨⟩ H
    replace H : kit_IsKey_E1 s1 = some r := H
    unfold kit_IsKey_E1 at H
    refine awp_seq ?_
    refine awp_seq ?_
    refine awp_plain hN rfl ?_
    refine seq_run0 (stp_move (.dat _) rfl) ?_
    refine seq_run0 (stp_move (.dat _) rfl) ?_
    refine seq_run0 (stp_len_str tyU9 rfl) ?_
    refine seq_run0 (stp_lss rfl rfl) ?_
    refine awp_cond _ rfl (fun h => (lt_t h).elim) (fun h => ?_)
    refine awp_exit ?_
    refine awp_seq ?_
    refine awp_plain hN rfl ?_
    refine seq_run0 (stp_move (.dat _) rfl) ?_
    refine seq_run0 (stp_sneq rfl rfl) ?_
    refine seq_run0 (stp_move (.dat _) rfl) ?_
    refine seq_aT rfl rfl (fun hc => stp_move (.dat _) rfl) ?_
    refine seq_aT rfl rfl (fun hc => stp_len_str tyU9 (cnd (c := (decide (s1 ≠ []))) hc)) ?_
    refine seq_aT rfl rfl (fun hc => stp_leq (cnd (c := (decide (s1 ≠ []))) hc) rfl) ?_
    refine seq_run0 (stp_pick_and rfl (fun hb => (cnd (c := (decide (s1 ≠ []))) hb)) rfl) ?_
    refine seq_run0 (stp_assign (.dat _) rfl) ?_
    refine awp_ret ?_
    cases H
    exact ⟨trivial, .inl rfl, trivial⟩
  · rintro i2 x5 ⟨⟩ q3 h6 h7 H hq3
    replace H : kit_IsKey_L1 i2 x5 = some q3 := H
    unfold kit_IsKey_L1 at H
    refine awp_seq ?_
    refine awp_seq ?_
    refine awp_plain hN rfl ?_
    refine seq_run0 (stp_move (.dat _) rfl) ?_
    refine seq_run0 (stp_move (.dat _) rfl) ?_
    refine seq_run0 (stp_len_str tyU9 rfl) ?_
    refine seq_run0 (stp_lss rfl rfl) ?_
    refine awp_cond _ rfl (fun h => ?_) (fun h => (lt_f h6 h).elim)
    refine awp_skip ?_
    refine awp_seq ?_
    refine awp_block ?_
    refine awp_seq ?_
    refine awp_plain hN rfl ?_
    refine seq_run0 (stp_move (.dat _) rfl) ?_
    refine seq_run0 (stp_move (.dat _) rfl) ?_
    refine seq_run0 (t_byte tyU9 rfl rfl h7) ?_
    refine seq_run0 (stp_assign (.dat _) rfl) ?_
    refine awp_seq ?_
    refine awp_plain hN rfl ?_
    refine seq_run0 (stp_move (.dat _) rfl) ?_
    refine seq_run0 (stp_geq rfl rfl) ?_
    refine seq_run0 (stp_move (.dat _) rfl) ?_
    refine seq_aT rfl rfl (fun hc => stp_move (.dat _) rfl) ?_
    refine seq_aT rfl rfl (fun hc => stp_leq (cnd (c := (decide (97 ≤ (x5.toNat : Int)))) hc) rfl) ?_
    refine seq_run0 (stp_pick_and rfl (fun hb => (cnd (c := (decide (97 ≤ (x5.toNat : Int)))) hb)) rfl) ?_
    refine seq_run0 (stp_move (.dat _) rfl) ?_
    refine seq_aF rfl rfl (fun hc => stp_move (.dat _) rfl) ?_
    refine seq_aF rfl rfl (fun hc => stp_gtr (cnd (c := (!((decide (97 ≤ (x5.toNat : Int))) && (decide ((x5.toNat : Int) ≤ 122))))) hc) rfl) ?_
    refine seq_aF rfl rfl (fun hc => stp_move (.dat _) (cnd (c := (!((decide (97 ≤ (x5.toNat : Int))) && (decide ((x5.toNat : Int) ≤ 122))))) hc)) ?_
    refine seq_bT rfl rfl (fun hc => stp_move (.dat _) rfl) ?_
    refine seq_bT rfl rfl (fun hc => stp_geq (cnd (c := ((!((decide (97 ≤ (x5.toNat : Int))) && (decide ((x5.toNat : Int) ≤ 122)))) && (decide (0 < (i2 : Int))))) hc) rfl) ?_
    refine seq_bT rfl rfl (fun hc => stp_move (.dat _) (cnd (c := ((!((decide (97 ≤ (x5.toNat : Int))) && (decide ((x5.toNat : Int) ≤ 122)))) && (decide (0 < (i2 : Int))))) hc)) ?_
    refine seq_bT rfl rfl (fun hc => stp_move (.dat _) rfl) ?_
    refine seq_bT rfl rfl (fun hc => stp_leq (cnd (c := (((!((decide (97 ≤ (x5.toNat : Int))) && (decide ((x5.toNat : Int) ≤ 122)))) && (decide (0 < (i2 : Int)))) && (decide (48 ≤ (x5.toNat : Int))))) hc) rfl) ?_
    refine seq_bT rfl rfl (fun hc => stp_pick_and (cnd (c := ((!((decide (97 ≤ (x5.toNat : Int))) && (decide ((x5.toNat : Int) ≤ 122)))) && (decide (0 < (i2 : Int))))) hc) (fun hb => (cnd (c := (((!((decide (97 ≤ (x5.toNat : Int))) && (decide ((x5.toNat : Int) ≤ 122)))) && (decide (0 < (i2 : Int)))) && (decide (48 ≤ (x5.toNat : Int))))) (andI hc hb))) rfl) ?_
    refine seq_bT rfl rfl (fun hc => stp_move (.dat _) (cnd (c := ((!((decide (97 ≤ (x5.toNat : Int))) && (decide ((x5.toNat : Int) ≤ 122)))) && (decide (0 < (i2 : Int))))) hc)) ?_
    refine seq_bF rfl rfl (fun hc => stp_move (.dat _) rfl) ?_
    refine seq_bF rfl rfl (fun hc => stp_eql (cnd (c := (((!((decide (97 ≤ (x5.toNat : Int))) && (decide ((x5.toNat : Int) ≤ 122)))) && (decide (0 < (i2 : Int)))) && !((decide (48 ≤ (x5.toNat : Int))) && (decide ((x5.toNat : Int) ≤ 57))))) hc) rfl) ?_
    refine seq_bT rfl rfl (fun hc => stp_pick_or (cnd (c := ((!((decide (97 ≤ (x5.toNat : Int))) && (decide ((x5.toNat : Int) ≤ 122)))) && (decide (0 < (i2 : Int))))) hc) rfl (fun hb => (cnd (c := (((!((decide (97 ≤ (x5.toNat : Int))) && (decide ((x5.toNat : Int) ≤ 122)))) && (decide (0 < (i2 : Int)))) && !((decide (48 ≤ (x5.toNat : Int))) && (decide ((x5.toNat : Int) ≤ 57))))) (andI hc (notI hb))))) ?_
    refine seq_bT rfl rfl (fun hc => stp_move (.dat _) (cnd (c := ((!((decide (97 ≤ (x5.toNat : Int))) && (decide ((x5.toNat : Int) ≤ 122)))) && (decide (0 < (i2 : Int))))) hc)) ?_
    refine seq_bF rfl rfl (fun hc => stp_move (.dat _) rfl) ?_
    refine seq_bF rfl rfl (fun hc => stp_eql (cnd (c := (((!((decide (97 ≤ (x5.toNat : Int))) && (decide ((x5.toNat : Int) ≤ 122)))) && (decide (0 < (i2 : Int)))) && !(((decide (48 ≤ (x5.toNat : Int))) && (decide ((x5.toNat : Int) ≤ 57))) || (decide ((x5.toNat : Int) = 45))))) hc) rfl) ?_
    refine seq_bT rfl rfl (fun hc => stp_pick_or (cnd (c := ((!((decide (97 ≤ (x5.toNat : Int))) && (decide ((x5.toNat : Int) ≤ 122)))) && (decide (0 < (i2 : Int))))) hc) rfl (fun hb => (cnd (c := (((!((decide (97 ≤ (x5.toNat : Int))) && (decide ((x5.toNat : Int) ≤ 122)))) && (decide (0 < (i2 : Int)))) && !(((decide (48 ≤ (x5.toNat : Int))) && (decide ((x5.toNat : Int) ≤ 57))) || (decide ((x5.toNat : Int) = 45))))) (andI hc (notI hb))))) ?_
    refine seq_aF rfl rfl (fun hc => stp_pick_and (cnd (c := (!((decide (97 ≤ (x5.toNat : Int))) && (decide ((x5.toNat : Int) ≤ 122))))) hc) (fun hb => (cnd (c := ((!((decide (97 ≤ (x5.toNat : Int))) && (decide ((x5.toNat : Int) ≤ 122)))) && (decide (0 < (i2 : Int))))) (andI hc hb))) rfl) ?_
    refine seq_run0 (stp_pick_or rfl rfl (fun hb => (cnd (c := (!((decide (97 ≤ (x5.toNat : Int))) && (decide ((x5.toNat : Int) ≤ 122))))) (notI hb)))) ?_
    refine seq_run0 (stp_not rfl) ?_
    refine awp_cond _ rfl (fun h8 => ?_) (fun h8 => ?_)
    · replace H := ift h8 H
      refine awp_seq ?_
      refine awp_plain hN rfl ?_
      refine seq_run0 (stp_assign (.dat _) rfl) ?_
      refine awp_ret ?_
      replace H := retl H hq3
      cases H
      exact ⟨trivial, .inl rfl, trivial⟩
    · replace H := iff_ h8 H
      refine awp_skip ?_
      refine awp_plain hN rfl ?_
      refine seq_run0 (stp_move (.dat _) rfl) ?_
      refine seq_run0 (stp_add rfl rfl (by omega)) ?_
      refine seq_run0 (stp_assign (.dat _) rfl) ?_
      exact ⟨_, backl H, ⟨rfl, rfl, trivial⟩, trivial⟩
theorem k_kit_Outside (n1 : Int) (low2 : Int) (high3 : Int) (r : (Bool)) (H : m_kit_Outside n1 low2 high3 = some r) : Fn Try.prog 73 [vint n1, vint low2, vint high3] (resOf [vbool r]) := by
  refine ⟨by kernel_rfl, pure_of (us := [vbool r]) Try.func73 rfl rfl rfl rfl fun X hN => ?_⟩
  unfold m_kit_Outside at H
  refine awp_seq ?_
  refine awp_plain hN rfl ?_
  refine seq_run0 (stp_assign (.dat _) rfl) ?_
  refine awp_seq ?_
  refine awp_plain hN rfl ?_
  refine seq_run0 (stp_move (.dat _) rfl) ?_
  refine seq_run0 (stp_move (.dat _) rfl) ?_
  refine seq_run0 (stp_lss rfl rfl) ?_
  refine seq_run0 (stp_move (.dat _) rfl) ?_
  refine seq_aF rfl rfl (fun hc => stp_move (.dat _) rfl) ?_
  refine seq_aF rfl rfl (fun hc => stp_move (.dat _) rfl) ?_
  refine seq_aF rfl rfl (fun hc => stp_gtr (cnd (c := (!(decide (n1 < low2)))) hc) (cnd (c := (!(decide (n1 < low2)))) hc)) ?_
  refine seq_run0 (stp_pick_or rfl rfl (fun hb => (cnd (c := (!(decide (n1 < low2)))) (notI hb)))) ?_
  refine seq_run0 (stp_assign (.dat _) rfl) ?_
  refine awp_ret ?_
  cases H
  exact ⟨trivial, .inl rfl, trivial⟩
theorem k_upstream_CheckInstances (l1 : (List S_api_Instance)) (r : (Int)) (H : m_upstream_CheckInstances l1 = some r) : Fn Try.prog 38 [vlst (List.map C_api_Instance l1)] (resOf [vint r]) := by
  refine ⟨by kernel_rfl, pure_of (us := [vint r]) Try.func38 rfl rfl rfl rfl fun X hN => ?_⟩
  unfold m_upstream_CheckInstances at H
  refine awp_seq ?_
  refine awp_plain hN rfl ?_
  refine seq_run0 (stp_assign (.dat _) rfl) ?_
  refine awp_seq ?_
  refine awp_seq ?_
  refine awp_plain hN rfl ?_
  refine seq_run0 (stp_move (.dat _) rfl) ?_
  refine seq_run0 (t_len tyU48 rfl) ?_
  refine seq_run0 (stp_gtr rfl rfl) ?_
  refine awp_cond _ rfl (fun h2 => ?_) (fun h2 => ?_)
  · replace H := ift h2 H
    refine awp_seq ?_
    refine awp_plain hN rfl ?_
    refine seq_run0 (stp_assign (.dat _) rfl) ?_
    refine awp_ret ?_
    cases H
    exact ⟨trivial, .inl rfl, trivial⟩
  · replace H := iff_ h2 H
    refine awp_skip ?_
    refine awp_seq ?_
    refine awp_seq ?_
    refine awp_plain hN rfl ?_
    refine seq_run0 (stp_move (.dat _) rfl) ?_
    refine seq_run0 (t_len tyU48 rfl) ?_
    refine seq_run0 (stp_move (.dat _) rfl) ?_
    refine awp_block ?_
    obtain ⟨h5, H⟩ := gif H
    refine awp_forL (fun (k3 : Nat) (s : Unit) => [(0, .dat (vlst (List.map C_api_Instance l1))), (8, .dat (vlst (List.map C_api_Instance l1))), (9, .dat (vint (l1.length : Int))), (10, .dat (vint (k3 : Int)))]) (fun (k3 : Nat) (s : Unit) => []) () H ⟨rfl, rfl, rfl, rfl, trivial⟩ trivial (fun _ _ => rfl) ?_ ?_
    · rintro ⟨⟩ H
      replace H : upstream_CheckInstances_E1 = some r := H
      unfold upstream_CheckInstances_E1 at H
      refine awp_seq ?_
      refine awp_plain hN rfl ?_
      refine seq_run0 (stp_lss rfl rfl) ?_
      refine awp_seq ?_
      refine awp_cond _ rfl (fun h => (lt_t h).elim) (fun h => ?_)
      refine awp_exit ?_
      refine awp_seq ?_
      refine awp_plain hN rfl ?_
      refine seq_run0 (stp_assign (.dat _) rfl) ?_
      refine awp_ret ?_
      cases H
      exact ⟨trivial, .inl rfl, trivial⟩
    · rintro k3 x6 ⟨⟩ q4 h7 h8 H hq4
      replace H : upstream_CheckInstances_L1 l1 k3 x6 = some q4 := H
      unfold upstream_CheckInstances_L1 at H
      refine awp_seq ?_
      refine awp_plain hN rfl ?_
      refine seq_run0 (stp_lss rfl rfl) ?_
      refine awp_seq ?_
      refine awp_cond _ rfl (fun h => ?_) (fun h => (lt_f h7 h).elim)
      refine awp_skip ?_
      refine awp_seq ?_
      refine awp_block ?_
      refine awp_seq ?_
      refine awp_plain hN rfl ?_
      refine seq_run0 (stp_move (.dat _) rfl) ?_
      refine seq_run0 (t_idx tyE48 (fun _ => rfl) rfl rfl h8) ?_
      refine seq_run0 (stp_loadEA tyS114 rfl (map_at h8) rfl) ?_
      refine seq_run2 (stp_alloc 1 tyZ114 rfl) rfl ?_
      refine seq_run0 (stp_assign (.dat _) rfl) ?_
      refine seq_run2 (stp_storeW tyS114 rfl rfl rfl rfl) rfl ?_
      refine awp_block ?_
      refine awp_seq ?_
      refine awp_plain hN rfl ?_
      refine seq_run0 (stp_fldP tyF114_0 rfl) ?_
      refine seq_run1 (stp_load1 tyS9 rfl rfl) rfl ?_
      obtain ⟨r9, h10, H⟩ := bnd H
      refine seq_run0 (stp_call (k_kit_IsKey x6.Key r9 h10) ⟨.inl rfl, trivial⟩) ?_
      refine seq_run0 (stp_not rfl) ?_
      refine seq_run0 (stp_assign (.dat _) rfl) ?_
      refine awp_cond _ rfl (fun h11 => ?_) (fun h11 => ?_)
      · replace H := ift h11 H
        refine awp_seq ?_
        refine awp_plain hN rfl ?_
        refine seq_run0 (stp_assign (.dat _) rfl) ?_
        refine awp_ret ?_
        replace H := retl H hq4
        cases H
        exact ⟨trivial, .inl rfl, trivial⟩
      · replace H := iff_ h11 H
        refine awp_joinE (ι := Bool) (fun i => [(0, .dat (vlst (List.map C_api_Instance l1))), (4, .ptr 1 0), (8, .dat (vlst (List.map C_api_Instance l1))), (9, .dat (vint (l1.length : Int))), (10, .dat (vint (k3 : Int))), (20, .dat (vbool i))]) (fun i => [(1, .box none 114 [.dat (vstr x6.Key), .dat (vint x6.Weight)])]) (fun i => upstream_CheckInstances_J2 x6 i = some q4) (fun i => rfl) ?_ ?_
        · skip
          refine awp_draw mixed hN rfl rfl ?_
          refine seq_run0 (stp_move (.dat _) rfl) ?_
          refine seq_run0 (stp_gtr rfl rfl) ?_
          refine seq_run0 (stp_move (.dat _) rfl) ?_
          refine seq_split (j := 2) rfl rfl (fun h12 => ?_) (fun h12 => ?_) rfl
          · have h13 := un1 h12
            replace H := ift h13 H
            refine seq_g0 rfl rfl h12 (stp_fldP tyF114_0 rfl) ?_
            refine seq_g1 rfl rfl h12 (stp_load1 tyS9 rfl rfl) rfl ?_
            refine seq_g0 rfl rfl h12 (stp_move (.dat _) rfl) ?_
            refine seq_g0 rfl rfl h12 (stp_move (.dat _) rfl) ?_
            refine seq_g0 rfl rfl h12 (stp_sub rfl rfl (by omega)) ?_
            obtain ⟨x14, h15, H⟩ := bnd H
            refine seq_g0 rfl rfl h12 (t_idxI tyE48 (fun _ => rfl) rfl rfl h15) ?_
            refine seq_g0 rfl rfl h12 (stp_fldE tyF114_0 rfl) ?_
            refine seq_g0 rfl rfl h12 (stp_loadE1 tyS9 rfl (map_at (at_some h15).2) rfl) ?_
            refine seq_g0 rfl rfl h12 (stp_sleq rfl rfl) ?_
            refine seq_run0 (stp_pick_t rfl (bTT h13) rfl) ?_
            refine seq_run0 (stp_assign (.dat _) rfl) ?_
            refine ⟨rfl, ?_⟩
            exact ⟨(Op.bytesLess x6.Key x14.Key || x6.Key == x14.Key), H, ⟨rfl, rfl, rfl, rfl, rfl, rfl, trivial⟩, ⟨rfl, trivial⟩⟩
          · have h16 := un2 h12
            replace H := iff_ h16 H
            refine seq_skip rfl rfl h12 ?_
            refine seq_skip rfl rfl h12 ?_
            refine seq_skip rfl rfl h12 ?_
            refine seq_skip rfl rfl h12 ?_
            refine seq_skip rfl rfl h12 ?_
            refine seq_skip rfl rfl h12 ?_
            refine seq_skip rfl rfl h12 ?_
            refine seq_skip rfl rfl h12 ?_
            refine seq_skip rfl rfl h12 ?_
            refine seq_run0 (stp_pick_f rfl (bFF h16) rfl) ?_
            refine seq_run0 (stp_assign (.dat _) rfl) ?_
            refine ⟨rfl, ?_⟩
            exact ⟨false, H, ⟨rfl, rfl, rfl, rfl, rfl, rfl, trivial⟩, ⟨rfl, trivial⟩⟩
        · rintro v17 H
          replace H : upstream_CheckInstances_J2 x6 v17 = some q4 := H
          unfold upstream_CheckInstances_J2 at H
          refine awp_cond _ rfl (fun h18 => ?_) (fun h18 => ?_)
          · replace H := ift h18 H
            refine awp_seq ?_
            refine awp_plain hN rfl ?_
            refine seq_run0 (stp_assign (.dat _) rfl) ?_
            refine awp_ret ?_
            replace H := retl H hq4
            cases H
            exact ⟨trivial, .inl rfl, trivial⟩
          · replace H := iff_ h18 H
            refine awp_seq ?_
            refine awp_plain hN rfl ?_
            refine seq_run0 (stp_fldP tyF114_1 rfl) ?_
            refine seq_run1 (stp_load1 tyS3 rfl rfl) rfl ?_
            obtain ⟨r19, h20, H⟩ := bnd H
            refine seq_run0 (stp_call (k_kit_Outside x6.Weight 1 100 r19 h20) ⟨.inl rfl, .inl rfl, .inl rfl, trivial⟩) ?_
            refine seq_run0 (stp_assign (.dat _) rfl) ?_
            refine awp_cond _ rfl (fun h21 => ?_) (fun h21 => ?_)
            · replace H := ift h21 H
              refine awp_seq ?_
              refine awp_plain hN rfl ?_
              refine seq_run0 (stp_assign (.dat _) rfl) ?_
              refine awp_ret ?_
              replace H := retl H hq4
              cases H
              exact ⟨trivial, .inl rfl, trivial⟩
            · replace H := iff_ h21 H
              refine awp_skip ?_
              refine awp_plain hN rfl ?_
              refine seq_run0 (stp_add rfl rfl (by omega)) ?_
              refine seq_run0 (stp_move (.dat _) rfl) ?_
              exact ⟨_, backl H, ⟨rfl, rfl, rfl, rfl, trivial⟩, trivial⟩
theorem k_upstream_CheckBudget (b1 : S_api_Budget) (r : (Int)) (H : m_upstream_CheckBudget b1 = some r) : Fn Try.prog 64 [vagg (C_api_Budget b1)] (resOf [vint r]) := by
  refine ⟨by kernel_rfl, pure_of (us := [vint r]) Try.func64 rfl rfl rfl rfl fun X hN => ?_⟩
  unfold m_upstream_CheckBudget at H
  refine awp_seq ?_
  refine awp_plain hN rfl ?_
  refine seq_run2 (stp_boxA 1 rfl) rfl ?_
  refine seq_run0 (stp_assign (.dat _) rfl) ?_
  refine awp_seq ?_
  refine awp_joinE (ι := Bool) (fun i => [(15, .dat (vbool i))]) (fun i => []) (fun i => upstream_CheckBudget_J1 i = some r) (fun i => rfl) ?_ ?_
  · skip
    refine awp_plain hN rfl ?_
    refine seq_run0 (stp_fldP tyF50_0 rfl) ?_
    refine seq_run1 (stp_load1 tyS3 rfl rfl) rfl ?_
    obtain ⟨r2, h3, H⟩ := bnd H
    refine seq_run0 (stp_call (k_kit_Outside b1.Window 1 3600000 r2 h3) ⟨.inl rfl, .inl rfl, .inl rfl, trivial⟩) ?_
    refine seq_run0 (stp_move (.dat _) rfl) ?_
    refine seq_split (j := 3) rfl rfl (fun h4 => ?_) (fun h4 => ?_) rfl
    · have h5 := un3 h4
      replace H := iff_ h5 H
      refine seq_g0 rfl rfl h4 (stp_fldP tyF50_1 rfl) ?_
      refine seq_g1 rfl rfl h4 (stp_load1 tyS3 rfl rfl) rfl ?_
      obtain ⟨r6, h7, H⟩ := bnd H
      refine seq_g0 rfl rfl h4 (stp_call (k_kit_Outside b1.Least 0 300 r6 h7) ⟨.inl rfl, .inl rfl, .inl rfl, trivial⟩) ?_
      refine seq_run0 (stp_pick_f rfl (bFF h5) rfl) ?_
      refine seq_run0 (stp_move (.dat _) rfl) ?_
      refine seq_split (j := 8) rfl rfl (fun h8 => ?_) (fun h8 => ?_) rfl
      · have h9 := un3 h8
        replace H := iff_ h9 H
        refine seq_g0 rfl rfl h8 (stp_fldP tyF50_2 rfl) ?_
        refine seq_g1 rfl rfl h8 (stp_load1 tyS3 rfl rfl) rfl ?_
        obtain ⟨r10, h11, H⟩ := bnd H
        refine seq_g0 rfl rfl h8 (stp_call (k_kit_Outside b1.Part 0 1000 r10 h11) ⟨.inl rfl, .inl rfl, .inl rfl, trivial⟩) ?_
        refine seq_run0 (stp_pick_f rfl (bFF h9) rfl) ?_
        exact ⟨r10, H, ⟨rfl, trivial⟩, trivial⟩
      · have h12 := un4 h8
        replace H := ift h12 H
        refine seq_skip rfl rfl h8 ?_
        refine seq_skip rfl rfl h8 ?_
        refine seq_skip rfl rfl h8 ?_
        refine seq_run0 (stp_pick_t rfl (bTT h12) rfl) ?_
        exact ⟨true, H, ⟨rfl, trivial⟩, trivial⟩
    · have h13 := un4 h4
      replace H := ift h13 H
      refine seq_skip rfl rfl h4 ?_
      refine seq_skip rfl rfl h4 ?_
      refine seq_skip rfl rfl h4 ?_
      refine seq_run0 (stp_pick_t rfl (bTT h13) rfl) ?_
      refine seq_run0 (stp_move (.dat _) rfl) ?_
      refine seq_skip rfl rfl rfl ?_
      refine seq_skip rfl rfl rfl ?_
      refine seq_skip rfl rfl rfl ?_
      refine seq_run0 (stp_pick_t rfl rfl rfl) ?_
      exact ⟨true, H, ⟨rfl, trivial⟩, trivial⟩
  · rintro v14 H
    replace H : upstream_CheckBudget_J1 v14 = some r := H
    unfold upstream_CheckBudget_J1 at H
    refine awp_cond _ rfl (fun h15 => ?_) (fun h15 => ?_)
    · replace H := ift h15 H
      refine awp_seq ?_
      refine awp_plain hN rfl ?_
      refine seq_run0 (stp_assign (.dat _) rfl) ?_
      refine awp_ret ?_
      cases H
      exact ⟨trivial, .inl rfl, trivial⟩
    · replace H := iff_ h15 H
      refine awp_skip ?_
      refine awp_seq ?_
      refine awp_plain hN rfl ?_
      refine seq_run0 (stp_assign (.dat _) rfl) ?_
      refine awp_ret ?_
      cases H
      exact ⟨trivial, .inl rfl, trivial⟩
theorem k_upstream_outliersFault (o1 : S_api_Outliers) (r : (Int)) (H : m_upstream_outliersFault o1 = some r) : Fn Try.prog 91 [vagg (C_api_Outliers o1)] (resOf [vint r]) := by
  refine ⟨by kernel_rfl, pure_of (us := [vint r]) Try.func91 rfl rfl rfl rfl fun X hN => ?_⟩
  unfold m_upstream_outliersFault at H
  refine awp_seq ?_
  refine awp_plain hN rfl ?_
  refine seq_run2 (stp_boxA 1 rfl) rfl ?_
  refine seq_run0 (stp_assign (.dat _) rfl) ?_
  refine awp_seq ?_
  refine awp_joinE (ι := Bool) (fun i => [(22, .dat (vbool i))]) (fun i => []) (fun i => upstream_outliersFault_J1 i = some r) (fun i => rfl) ?_ ?_
  · skip
    refine awp_plain hN rfl ?_
    refine seq_run0 (stp_fldP tyF52_0 rfl) ?_
    refine seq_run1 (stp_load1 tyS3 rfl rfl) rfl ?_
    obtain ⟨r2, h3, H⟩ := bnd H
    refine seq_run0 (stp_call (k_kit_Outside o1.Fails 1 100 r2 h3) ⟨.inl rfl, .inl rfl, .inl rfl, trivial⟩) ?_
    refine seq_run0 (stp_move (.dat _) rfl) ?_
    refine seq_split (j := 3) rfl rfl (fun h4 => ?_) (fun h4 => ?_) rfl
    · have h5 := un3 h4
      replace H := iff_ h5 H
      refine seq_g0 rfl rfl h4 (stp_fldP tyF52_1 rfl) ?_
      refine seq_g1 rfl rfl h4 (stp_load1 tyS3 rfl rfl) rfl ?_
      refine seq_g0 rfl rfl h4 (stp_fldP tyF52_2 rfl) ?_
      refine seq_g1 rfl rfl h4 (stp_load1 tyS3 rfl rfl) rfl ?_
      obtain ⟨r6, h7, H⟩ := bnd H
      refine seq_g0 rfl rfl h4 (stp_call (k_kit_Outside o1.Base 1 o1.Most r6 h7) ⟨.inl rfl, .inl rfl, .inl rfl, trivial⟩) ?_
      refine seq_run0 (stp_pick_f rfl (bFF h5) rfl) ?_
      refine seq_run0 (stp_move (.dat _) rfl) ?_
      refine seq_split (j := 10) rfl rfl (fun h8 => ?_) (fun h8 => ?_) rfl
      · have h9 := un3 h8
        replace H := iff_ h9 H
        refine seq_g0 rfl rfl h8 (stp_fldP tyF52_2 rfl) ?_
        refine seq_g1 rfl rfl h8 (stp_load1 tyS3 rfl rfl) rfl ?_
        refine seq_g0 rfl rfl h8 (stp_gtr rfl rfl) ?_
        refine seq_run0 (stp_pick_f rfl (bFF h9) rfl) ?_
        refine seq_run0 (stp_move (.dat _) rfl) ?_
        refine seq_split (j := 15) rfl rfl (fun h10 => ?_) (fun h10 => ?_) rfl
        · have h11 := un3 h10
          replace H := iff_ h11 H
          refine seq_g0 rfl rfl h10 (stp_fldP tyF52_3 rfl) ?_
          refine seq_g1 rfl rfl h10 (stp_load1 tyS3 rfl rfl) rfl ?_
          obtain ⟨r12, h13, H⟩ := bnd H
          refine seq_g0 rfl rfl h10 (stp_call (k_kit_Outside o1.Share 0 1000 r12 h13) ⟨.inl rfl, .inl rfl, .inl rfl, trivial⟩) ?_
          refine seq_run0 (stp_pick_f rfl (bFF h11) rfl) ?_
          exact ⟨r12, H, ⟨rfl, trivial⟩, trivial⟩
        · have h14 := un4 h10
          replace H := ift h14 H
          refine seq_skip rfl rfl h10 ?_
          refine seq_skip rfl rfl h10 ?_
          refine seq_skip rfl rfl h10 ?_
          refine seq_run0 (stp_pick_t rfl (bTT h14) rfl) ?_
          exact ⟨true, H, ⟨rfl, trivial⟩, trivial⟩
      · have h15 := un4 h8
        replace H := ift h15 H
        refine seq_skip rfl rfl h8 ?_
        refine seq_skip rfl rfl h8 ?_
        refine seq_skip rfl rfl h8 ?_
        refine seq_run0 (stp_pick_t rfl (bTT h15) rfl) ?_
        refine seq_run0 (stp_move (.dat _) rfl) ?_
        refine seq_skip rfl rfl rfl ?_
        refine seq_skip rfl rfl rfl ?_
        refine seq_skip rfl rfl rfl ?_
        refine seq_run0 (stp_pick_t rfl rfl rfl) ?_
        exact ⟨true, H, ⟨rfl, trivial⟩, trivial⟩
    · have h16 := un4 h4
      replace H := ift h16 H
      refine seq_skip rfl rfl h4 ?_
      refine seq_skip rfl rfl h4 ?_
      refine seq_skip rfl rfl h4 ?_
      refine seq_skip rfl rfl h4 ?_
      refine seq_skip rfl rfl h4 ?_
      refine seq_run0 (stp_pick_t rfl (bTT h16) rfl) ?_
      refine seq_run0 (stp_move (.dat _) rfl) ?_
      refine seq_skip rfl rfl rfl ?_
      refine seq_skip rfl rfl rfl ?_
      refine seq_skip rfl rfl rfl ?_
      refine seq_run0 (stp_pick_t rfl rfl rfl) ?_
      refine seq_run0 (stp_move (.dat _) rfl) ?_
      refine seq_skip rfl rfl rfl ?_
      refine seq_skip rfl rfl rfl ?_
      refine seq_skip rfl rfl rfl ?_
      refine seq_run0 (stp_pick_t rfl rfl rfl) ?_
      exact ⟨true, H, ⟨rfl, trivial⟩, trivial⟩
  · rintro v17 H
    replace H : upstream_outliersFault_J1 v17 = some r := H
    unfold upstream_outliersFault_J1 at H
    refine awp_cond _ rfl (fun h18 => ?_) (fun h18 => ?_)
    · replace H := ift h18 H
      refine awp_seq ?_
      refine awp_plain hN rfl ?_
      refine seq_run0 (stp_assign (.dat _) rfl) ?_
      refine awp_ret ?_
      cases H
      exact ⟨trivial, .inl rfl, trivial⟩
    · replace H := iff_ h18 H
      refine awp_skip ?_
      refine awp_seq ?_
      refine awp_plain hN rfl ?_
      refine seq_run0 (stp_assign (.dat _) rfl) ?_
      refine awp_ret ?_
      cases H
      exact ⟨trivial, .inl rfl, trivial⟩
theorem k_upstream_CheckSetup (s1 : S_api_Setup) (r : (Int)) (H : m_upstream_CheckSetup s1 = some r) : Fn Try.prog 28 [vagg (C_api_Setup s1)] (resOf [vint r]) := by
  refine ⟨by kernel_rfl, pure_of (us := [vint r]) Try.func28 rfl rfl rfl rfl fun X hN => ?_⟩
  unfold m_upstream_CheckSetup at H
  refine awp_seq ?_
  refine awp_plain hN rfl ?_
  refine seq_run2 (stp_boxA 1 rfl) rfl ?_
  refine seq_run0 (stp_assign (.dat _) rfl) ?_
  refine awp_seq ?_
  refine awp_seq ?_
  refine awp_plain hN rfl ?_
  refine seq_run0 (stp_fldP tyF54_0 rfl) ?_
  refine seq_run1 (stp_load1 tyS48 rfl rfl) rfl ?_
  obtain ⟨r2, h3, H⟩ := bnd H
  refine seq_run0 (stp_call (k_upstream_CheckInstances s1.Instances r2 h3) ⟨.inl rfl, trivial⟩) ?_
  refine seq_run0 (stp_assign (.dat _) rfl) ?_
  refine awp_seq ?_
  refine awp_plain hN rfl ?_
  refine seq_run0 (stp_move (.dat _) rfl) ?_
  refine seq_run0 (stp_neq rfl rfl) ?_
  refine awp_cond _ rfl (fun h4 => ?_) (fun h4 => ?_)
  · replace H := ift h4 H
    refine awp_seq ?_
    refine awp_plain hN rfl ?_
    refine seq_run0 (stp_move (.dat _) rfl) ?_
    refine seq_run0 (stp_assign (.dat _) rfl) ?_
    refine awp_ret ?_
    cases H
    exact ⟨trivial, .inl rfl, trivial⟩
  · replace H := iff_ h4 H
    refine awp_skip ?_
    refine awp_seq ?_
    refine awp_joinE (ι := Bool) (fun i => [(1, .ptr 1 0), (30, .dat (vbool i))]) (fun i => [(1, .box none 54 [.dat (vlst (List.map C_api_Instance s1.Instances)), .dat (vint s1.Tries), .dat (vint s1.Timeout), .dat (vint s1.Wait), .dat (vint s1.MostWait), .dat (vint s1.Budget.Window), .dat (vint s1.Budget.Least), .dat (vint s1.Budget.Part), .dat (vint s1.Outliers.Fails), .dat (vint s1.Outliers.Base), .dat (vint s1.Outliers.Most), .dat (vint s1.Outliers.Share)])]) (fun i => upstream_CheckSetup_J1 s1 i = some r) (fun i => rfl) ?_ ?_
    · skip
      refine awp_plain hN rfl ?_
      refine seq_run0 (stp_fldP tyF54_1 rfl) ?_
      refine seq_run1 (stp_load1 tyS3 rfl rfl) rfl ?_
      obtain ⟨r5, h6, H⟩ := bnd H
      refine seq_run0 (stp_call (k_kit_Outside s1.Tries 1 5 r5 h6) ⟨.inl rfl, .inl rfl, .inl rfl, trivial⟩) ?_
      refine seq_run0 (stp_move (.dat _) rfl) ?_
      refine seq_split (j := 3) rfl rfl (fun h7 => ?_) (fun h7 => ?_) rfl
      · have h8 := un3 h7
        replace H := iff_ h8 H
        refine seq_g0 rfl rfl h7 (stp_fldP tyF54_2 rfl) ?_
        refine seq_g1 rfl rfl h7 (stp_load1 tyS3 rfl rfl) rfl ?_
        obtain ⟨r9, h10, H⟩ := bnd H
        refine seq_g0 rfl rfl h7 (stp_call (k_kit_Outside s1.Timeout 1 3600000 r9 h10) ⟨.inl rfl, .inl rfl, .inl rfl, trivial⟩) ?_
        refine seq_run0 (stp_pick_f rfl (bFF h8) rfl) ?_
        refine seq_run0 (stp_move (.dat _) rfl) ?_
        refine seq_split (j := 8) rfl rfl (fun h11 => ?_) (fun h11 => ?_) rfl
        · have h12 := un3 h11
          replace H := iff_ h12 H
          refine seq_g0 rfl rfl h11 (stp_fldP tyF54_3 rfl) ?_
          refine seq_g1 rfl rfl h11 (stp_load1 tyS3 rfl rfl) rfl ?_
          refine seq_g0 rfl rfl h11 (stp_fldP tyF54_4 rfl) ?_
          refine seq_g1 rfl rfl h11 (stp_load1 tyS3 rfl rfl) rfl ?_
          obtain ⟨r13, h14, H⟩ := bnd H
          refine seq_g0 rfl rfl h11 (stp_call (k_kit_Outside s1.Wait 0 s1.MostWait r13 h14) ⟨.inl rfl, .inl rfl, .inl rfl, trivial⟩) ?_
          refine seq_run0 (stp_pick_f rfl (bFF h12) rfl) ?_
          refine seq_run0 (stp_move (.dat _) rfl) ?_
          refine seq_split (j := 15) rfl rfl (fun h15 => ?_) (fun h15 => ?_) rfl
          · have h16 := un3 h15
            replace H := iff_ h16 H
            refine seq_g0 rfl rfl h15 (stp_fldP tyF54_4 rfl) ?_
            refine seq_g1 rfl rfl h15 (stp_load1 tyS3 rfl rfl) rfl ?_
            refine seq_g0 rfl rfl h15 (stp_gtr rfl rfl) ?_
            refine seq_run0 (stp_pick_f rfl (bFF h16) rfl) ?_
            exact ⟨decide (3600000 < s1.MostWait), H, ⟨rfl, rfl, trivial⟩, ⟨rfl, trivial⟩⟩
          · have h17 := un4 h15
            replace H := ift h17 H
            refine seq_skip rfl rfl h15 ?_
            refine seq_skip rfl rfl h15 ?_
            refine seq_skip rfl rfl h15 ?_
            refine seq_run0 (stp_pick_t rfl (bTT h17) rfl) ?_
            exact ⟨true, H, ⟨rfl, rfl, trivial⟩, ⟨rfl, trivial⟩⟩
        · have h18 := un4 h11
          replace H := ift h18 H
          refine seq_skip rfl rfl h11 ?_
          refine seq_skip rfl rfl h11 ?_
          refine seq_skip rfl rfl h11 ?_
          refine seq_skip rfl rfl h11 ?_
          refine seq_skip rfl rfl h11 ?_
          refine seq_run0 (stp_pick_t rfl (bTT h18) rfl) ?_
          refine seq_run0 (stp_move (.dat _) rfl) ?_
          refine seq_skip rfl rfl rfl ?_
          refine seq_skip rfl rfl rfl ?_
          refine seq_skip rfl rfl rfl ?_
          refine seq_run0 (stp_pick_t rfl rfl rfl) ?_
          exact ⟨true, H, ⟨rfl, rfl, trivial⟩, ⟨rfl, trivial⟩⟩
      · have h19 := un4 h7
        replace H := ift h19 H
        refine seq_skip rfl rfl h7 ?_
        refine seq_skip rfl rfl h7 ?_
        refine seq_skip rfl rfl h7 ?_
        refine seq_run0 (stp_pick_t rfl (bTT h19) rfl) ?_
        refine seq_run0 (stp_move (.dat _) rfl) ?_
        refine seq_skip rfl rfl rfl ?_
        refine seq_skip rfl rfl rfl ?_
        refine seq_skip rfl rfl rfl ?_
        refine seq_skip rfl rfl rfl ?_
        refine seq_skip rfl rfl rfl ?_
        refine seq_run0 (stp_pick_t rfl rfl rfl) ?_
        refine seq_run0 (stp_move (.dat _) rfl) ?_
        refine seq_skip rfl rfl rfl ?_
        refine seq_skip rfl rfl rfl ?_
        refine seq_skip rfl rfl rfl ?_
        refine seq_run0 (stp_pick_t rfl rfl rfl) ?_
        exact ⟨true, H, ⟨rfl, rfl, trivial⟩, ⟨rfl, trivial⟩⟩
    · rintro v20 H
      replace H : upstream_CheckSetup_J1 s1 v20 = some r := H
      unfold upstream_CheckSetup_J1 at H
      refine awp_cond _ rfl (fun h21 => ?_) (fun h21 => ?_)
      · replace H := ift h21 H
        refine awp_seq ?_
        refine awp_plain hN rfl ?_
        refine seq_run0 (stp_assign (.dat _) rfl) ?_
        refine awp_ret ?_
        cases H
        exact ⟨trivial, .inl rfl, trivial⟩
      · replace H := iff_ h21 H
        refine awp_skip ?_
        refine awp_seq ?_
        refine awp_seq ?_
        refine awp_plain hN rfl ?_
        refine seq_run0 (stp_fldP tyF54_5 rfl) ?_
        refine seq_run1 (stp_loadA tyS50 rfl rfl rfl) rfl ?_
        obtain ⟨r22, h23, H⟩ := bnd H
        refine seq_run0 (stp_call (k_upstream_CheckBudget s1.Budget r22 h23) ⟨.inl rfl, trivial⟩) ?_
        refine seq_run0 (stp_assign (.dat _) rfl) ?_
        refine awp_seq ?_
        refine awp_plain hN rfl ?_
        refine seq_run0 (stp_move (.dat _) rfl) ?_
        refine seq_run0 (stp_neq rfl rfl) ?_
        refine awp_cond _ rfl (fun h24 => ?_) (fun h24 => ?_)
        · replace H := ift h24 H
          refine awp_seq ?_
          refine awp_plain hN rfl ?_
          refine seq_run0 (stp_move (.dat _) rfl) ?_
          refine seq_run0 (stp_assign (.dat _) rfl) ?_
          refine awp_ret ?_
          cases H
          exact ⟨trivial, .inl rfl, trivial⟩
        · replace H := iff_ h24 H
          refine awp_skip ?_
          refine awp_seq ?_
          refine awp_plain hN rfl ?_
          refine seq_run0 (stp_fldP tyF54_6 rfl) ?_
          refine seq_run1 (stp_loadA tyS52 rfl rfl rfl) rfl ?_
          obtain ⟨r25, h26, H⟩ := bnd H
          refine seq_run0 (stp_call (k_upstream_outliersFault s1.Outliers r25 h26) ⟨.inl rfl, trivial⟩) ?_
          refine seq_run0 (stp_assign (.dat _) rfl) ?_
          refine awp_ret ?_
          cases H
          exact ⟨trivial, .inl rfl, trivial⟩
theorem k_gateref2_BudgetFault (b1 : S_api_Budget) (r : (Int)) (H : m_gateref2_BudgetFault b1 = some r) : Fn Try.prog 63 [vagg (C_api_Budget b1)] (resOf [vint r]) := by
  refine ⟨by kernel_rfl, pure_of (us := [vint r]) Try.func63 rfl rfl rfl rfl fun X hN => ?_⟩
  unfold m_gateref2_BudgetFault at H
  refine awp_seq ?_
  refine awp_plain hN rfl ?_
  refine seq_run2 (stp_boxA 1 rfl) rfl ?_
  refine seq_run0 (stp_assign (.dat _) rfl) ?_
  refine awp_seq ?_
  refine awp_joinE (ι := Bool) (fun i => [(18, .dat (vbool i))]) (fun i => []) (fun i => gateref2_BudgetFault_J1 i = some r) (fun i => rfl) ?_ ?_
  · skip
    refine awp_plain hN rfl ?_
    refine seq_run0 (stp_fldP tyF50_0 rfl) ?_
    refine seq_run1 (stp_load1 tyS3 rfl rfl) rfl ?_
    obtain ⟨r2, h3, H⟩ := bnd H
    refine seq_run0 (stp_call (k_gateref2_in b1.Window 1 3600000 r2 h3) ⟨.inl rfl, .inl rfl, .inl rfl, trivial⟩) ?_
    refine seq_run0 (stp_not rfl) ?_
    refine seq_run0 (stp_move (.dat _) rfl) ?_
    refine seq_split (j := 4) rfl rfl (fun h4 => ?_) (fun h4 => ?_) rfl
    · have h5 := un3 h4
      replace H := iff_ h5 H
      refine seq_g0 rfl rfl h4 (stp_fldP tyF50_1 rfl) ?_
      refine seq_g1 rfl rfl h4 (stp_load1 tyS3 rfl rfl) rfl ?_
      obtain ⟨r6, h7, H⟩ := bnd H
      refine seq_g0 rfl rfl h4 (stp_call (k_gateref2_in b1.Least 0 300 r6 h7) ⟨.inl rfl, .inl rfl, .inl rfl, trivial⟩) ?_
      refine seq_g0 rfl rfl h4 (stp_not rfl) ?_
      refine seq_run0 (stp_pick_f rfl (bFF h5) rfl) ?_
      refine seq_run0 (stp_move (.dat _) rfl) ?_
      refine seq_split (j := 10) rfl rfl (fun h8 => ?_) (fun h8 => ?_) rfl
      · have h9 := un3 h8
        replace H := iff_ h9 H
        refine seq_g0 rfl rfl h8 (stp_fldP tyF50_2 rfl) ?_
        refine seq_g1 rfl rfl h8 (stp_load1 tyS3 rfl rfl) rfl ?_
        obtain ⟨r10, h11, H⟩ := bnd H
        refine seq_g0 rfl rfl h8 (stp_call (k_gateref2_in b1.Part 0 1000 r10 h11) ⟨.inl rfl, .inl rfl, .inl rfl, trivial⟩) ?_
        refine seq_g0 rfl rfl h8 (stp_not rfl) ?_
        refine seq_run0 (stp_pick_f rfl (bFF h9) rfl) ?_
        exact ⟨!r10, H, ⟨rfl, trivial⟩, trivial⟩
      · have h12 := un4 h8
        replace H := ift h12 H
        refine seq_skip rfl rfl h8 ?_
        refine seq_skip rfl rfl h8 ?_
        refine seq_skip rfl rfl h8 ?_
        refine seq_skip rfl rfl h8 ?_
        refine seq_run0 (stp_pick_t rfl (bTT h12) rfl) ?_
        exact ⟨true, H, ⟨rfl, trivial⟩, trivial⟩
    · have h13 := un4 h4
      replace H := ift h13 H
      refine seq_skip rfl rfl h4 ?_
      refine seq_skip rfl rfl h4 ?_
      refine seq_skip rfl rfl h4 ?_
      refine seq_skip rfl rfl h4 ?_
      refine seq_run0 (stp_pick_t rfl (bTT h13) rfl) ?_
      refine seq_run0 (stp_move (.dat _) rfl) ?_
      refine seq_skip rfl rfl rfl ?_
      refine seq_skip rfl rfl rfl ?_
      refine seq_skip rfl rfl rfl ?_
      refine seq_skip rfl rfl rfl ?_
      refine seq_run0 (stp_pick_t rfl rfl rfl) ?_
      exact ⟨true, H, ⟨rfl, trivial⟩, trivial⟩
  · rintro v14 H
    replace H : gateref2_BudgetFault_J1 v14 = some r := H
    unfold gateref2_BudgetFault_J1 at H
    refine awp_cond _ rfl (fun h15 => ?_) (fun h15 => ?_)
    · replace H := ift h15 H
      refine awp_seq ?_
      refine awp_plain hN rfl ?_
      refine seq_run0 (stp_assign (.dat _) rfl) ?_
      refine awp_ret ?_
      cases H
      exact ⟨trivial, .inl rfl, trivial⟩
    · replace H := iff_ h15 H
      refine awp_skip ?_
      refine awp_seq ?_
      refine awp_plain hN rfl ?_
      refine seq_run0 (stp_assign (.dat _) rfl) ?_
      refine awp_ret ?_
      cases H
      exact ⟨trivial, .inl rfl, trivial⟩
theorem k_gateref2_OutliersFault (o1 : S_api_Outliers) (r : (Int)) (H : m_gateref2_OutliersFault o1 = some r) : Fn Try.prog 53 [vagg (C_api_Outliers o1)] (resOf [vint r]) := by
  refine ⟨by kernel_rfl, pure_of (us := [vint r]) Try.func53 rfl rfl rfl rfl fun X hN => ?_⟩
  unfold m_gateref2_OutliersFault at H
  refine awp_seq ?_
  refine awp_plain hN rfl ?_
  refine seq_run2 (stp_boxA 1 rfl) rfl ?_
  refine seq_run0 (stp_assign (.dat _) rfl) ?_
  refine awp_seq ?_
  refine awp_joinE (ι := Bool) (fun i => [(25, .dat (vbool i))]) (fun i => []) (fun i => gateref2_OutliersFault_J1 i = some r) (fun i => rfl) ?_ ?_
  · skip
    refine awp_plain hN rfl ?_
    refine seq_run0 (stp_fldP tyF52_0 rfl) ?_
    refine seq_run1 (stp_load1 tyS3 rfl rfl) rfl ?_
    obtain ⟨r2, h3, H⟩ := bnd H
    refine seq_run0 (stp_call (k_gateref2_in o1.Fails 1 100 r2 h3) ⟨.inl rfl, .inl rfl, .inl rfl, trivial⟩) ?_
    refine seq_run0 (stp_not rfl) ?_
    refine seq_run0 (stp_move (.dat _) rfl) ?_
    refine seq_split (j := 4) rfl rfl (fun h4 => ?_) (fun h4 => ?_) rfl
    · have h5 := un3 h4
      replace H := iff_ h5 H
      refine seq_g0 rfl rfl h4 (stp_fldP tyF52_1 rfl) ?_
      refine seq_g1 rfl rfl h4 (stp_load1 tyS3 rfl rfl) rfl ?_
      refine seq_g0 rfl rfl h4 (stp_fldP tyF52_2 rfl) ?_
      refine seq_g1 rfl rfl h4 (stp_load1 tyS3 rfl rfl) rfl ?_
      obtain ⟨r6, h7, H⟩ := bnd H
      refine seq_g0 rfl rfl h4 (stp_call (k_gateref2_in o1.Base 1 o1.Most r6 h7) ⟨.inl rfl, .inl rfl, .inl rfl, trivial⟩) ?_
      refine seq_g0 rfl rfl h4 (stp_not rfl) ?_
      refine seq_run0 (stp_pick_f rfl (bFF h5) rfl) ?_
      refine seq_run0 (stp_move (.dat _) rfl) ?_
      refine seq_split (j := 12) rfl rfl (fun h8 => ?_) (fun h8 => ?_) rfl
      · have h9 := un3 h8
        replace H := iff_ h9 H
        refine seq_g0 rfl rfl h8 (stp_fldP tyF52_2 rfl) ?_
        refine seq_g1 rfl rfl h8 (stp_load1 tyS3 rfl rfl) rfl ?_
        refine seq_g0 rfl rfl h8 (stp_gtr rfl rfl) ?_
        refine seq_run0 (stp_pick_f rfl (bFF h9) rfl) ?_
        refine seq_run0 (stp_move (.dat _) rfl) ?_
        refine seq_split (j := 17) rfl rfl (fun h10 => ?_) (fun h10 => ?_) rfl
        · have h11 := un3 h10
          replace H := iff_ h11 H
          refine seq_g0 rfl rfl h10 (stp_fldP tyF52_3 rfl) ?_
          refine seq_g1 rfl rfl h10 (stp_load1 tyS3 rfl rfl) rfl ?_
          obtain ⟨r12, h13, H⟩ := bnd H
          refine seq_g0 rfl rfl h10 (stp_call (k_gateref2_in o1.Share 0 1000 r12 h13) ⟨.inl rfl, .inl rfl, .inl rfl, trivial⟩) ?_
          refine seq_g0 rfl rfl h10 (stp_not rfl) ?_
          refine seq_run0 (stp_pick_f rfl (bFF h11) rfl) ?_
          exact ⟨!r12, H, ⟨rfl, trivial⟩, trivial⟩
        · have h14 := un4 h10
          replace H := ift h14 H
          refine seq_skip rfl rfl h10 ?_
          refine seq_skip rfl rfl h10 ?_
          refine seq_skip rfl rfl h10 ?_
          refine seq_skip rfl rfl h10 ?_
          refine seq_run0 (stp_pick_t rfl (bTT h14) rfl) ?_
          exact ⟨true, H, ⟨rfl, trivial⟩, trivial⟩
      · have h15 := un4 h8
        replace H := ift h15 H
        refine seq_skip rfl rfl h8 ?_
        refine seq_skip rfl rfl h8 ?_
        refine seq_skip rfl rfl h8 ?_
        refine seq_run0 (stp_pick_t rfl (bTT h15) rfl) ?_
        refine seq_run0 (stp_move (.dat _) rfl) ?_
        refine seq_skip rfl rfl rfl ?_
        refine seq_skip rfl rfl rfl ?_
        refine seq_skip rfl rfl rfl ?_
        refine seq_skip rfl rfl rfl ?_
        refine seq_run0 (stp_pick_t rfl rfl rfl) ?_
        exact ⟨true, H, ⟨rfl, trivial⟩, trivial⟩
    · have h16 := un4 h4
      replace H := ift h16 H
      refine seq_skip rfl rfl h4 ?_
      refine seq_skip rfl rfl h4 ?_
      refine seq_skip rfl rfl h4 ?_
      refine seq_skip rfl rfl h4 ?_
      refine seq_skip rfl rfl h4 ?_
      refine seq_skip rfl rfl h4 ?_
      refine seq_run0 (stp_pick_t rfl (bTT h16) rfl) ?_
      refine seq_run0 (stp_move (.dat _) rfl) ?_
      refine seq_skip rfl rfl rfl ?_
      refine seq_skip rfl rfl rfl ?_
      refine seq_skip rfl rfl rfl ?_
      refine seq_run0 (stp_pick_t rfl rfl rfl) ?_
      refine seq_run0 (stp_move (.dat _) rfl) ?_
      refine seq_skip rfl rfl rfl ?_
      refine seq_skip rfl rfl rfl ?_
      refine seq_skip rfl rfl rfl ?_
      refine seq_skip rfl rfl rfl ?_
      refine seq_run0 (stp_pick_t rfl rfl rfl) ?_
      exact ⟨true, H, ⟨rfl, trivial⟩, trivial⟩
  · rintro v17 H
    replace H : gateref2_OutliersFault_J1 v17 = some r := H
    unfold gateref2_OutliersFault_J1 at H
    refine awp_cond _ rfl (fun h18 => ?_) (fun h18 => ?_)
    · replace H := ift h18 H
      refine awp_seq ?_
      refine awp_plain hN rfl ?_
      refine seq_run0 (stp_assign (.dat _) rfl) ?_
      refine awp_ret ?_
      cases H
      exact ⟨trivial, .inl rfl, trivial⟩
    · replace H := iff_ h18 H
      refine awp_skip ?_
      refine awp_seq ?_
      refine awp_plain hN rfl ?_
      refine seq_run0 (stp_assign (.dat _) rfl) ?_
      refine awp_ret ?_
      cases H
      exact ⟨trivial, .inl rfl, trivial⟩
theorem k_gateref2_SetupFault (s1 : S_api_Setup) (r : (Int)) (H : m_gateref2_SetupFault s1 = some r) : Fn Try.prog 29 [vagg (C_api_Setup s1)] (resOf [vint r]) := by
  refine ⟨by kernel_rfl, pure_of (us := [vint r]) Try.func29 rfl rfl rfl rfl fun X hN => ?_⟩
  unfold m_gateref2_SetupFault at H
  refine awp_seq ?_
  refine awp_plain hN rfl ?_
  refine seq_run2 (stp_boxA 1 rfl) rfl ?_
  refine seq_run0 (stp_assign (.dat _) rfl) ?_
  refine awp_seq ?_
  refine awp_seq ?_
  refine awp_plain hN rfl ?_
  refine seq_run0 (stp_fldP tyF54_0 rfl) ?_
  refine seq_run1 (stp_load1 tyS48 rfl rfl) rfl ?_
  obtain ⟨r2, h3, H⟩ := bnd H
  refine seq_run0 (stp_call (k_gateref2_InstancesFault s1.Instances r2 h3) ⟨.inl rfl, trivial⟩) ?_
  refine seq_run0 (stp_assign (.dat _) rfl) ?_
  refine awp_seq ?_
  refine awp_plain hN rfl ?_
  refine seq_run0 (stp_move (.dat _) rfl) ?_
  refine seq_run0 (stp_neq rfl rfl) ?_
  refine awp_cond _ rfl (fun h4 => ?_) (fun h4 => ?_)
  · replace H := ift h4 H
    refine awp_seq ?_
    refine awp_plain hN rfl ?_
    refine seq_run0 (stp_move (.dat _) rfl) ?_
    refine seq_run0 (stp_assign (.dat _) rfl) ?_
    refine awp_ret ?_
    cases H
    exact ⟨trivial, .inl rfl, trivial⟩
  · replace H := iff_ h4 H
    refine awp_skip ?_
    refine awp_seq ?_
    refine awp_joinE (ι := Bool) (fun i => [(1, .ptr 1 0), (33, .dat (vbool i))]) (fun i => [(1, .box none 54 [.dat (vlst (List.map C_api_Instance s1.Instances)), .dat (vint s1.Tries), .dat (vint s1.Timeout), .dat (vint s1.Wait), .dat (vint s1.MostWait), .dat (vint s1.Budget.Window), .dat (vint s1.Budget.Least), .dat (vint s1.Budget.Part), .dat (vint s1.Outliers.Fails), .dat (vint s1.Outliers.Base), .dat (vint s1.Outliers.Most), .dat (vint s1.Outliers.Share)])]) (fun i => gateref2_SetupFault_J1 s1 i = some r) (fun i => rfl) ?_ ?_
    · skip
      refine awp_plain hN rfl ?_
      refine seq_run0 (stp_fldP tyF54_1 rfl) ?_
      refine seq_run1 (stp_load1 tyS3 rfl rfl) rfl ?_
      obtain ⟨r5, h6, H⟩ := bnd H
      refine seq_run0 (stp_call (k_gateref2_in s1.Tries 1 5 r5 h6) ⟨.inl rfl, .inl rfl, .inl rfl, trivial⟩) ?_
      refine seq_run0 (stp_not rfl) ?_
      refine seq_run0 (stp_move (.dat _) rfl) ?_
      refine seq_split (j := 4) rfl rfl (fun h7 => ?_) (fun h7 => ?_) rfl
      · have h8 := un3 h7
        replace H := iff_ h8 H
        refine seq_g0 rfl rfl h7 (stp_fldP tyF54_2 rfl) ?_
        refine seq_g1 rfl rfl h7 (stp_load1 tyS3 rfl rfl) rfl ?_
        obtain ⟨r9, h10, H⟩ := bnd H
        refine seq_g0 rfl rfl h7 (stp_call (k_gateref2_in s1.Timeout 1 3600000 r9 h10) ⟨.inl rfl, .inl rfl, .inl rfl, trivial⟩) ?_
        refine seq_g0 rfl rfl h7 (stp_not rfl) ?_
        refine seq_run0 (stp_pick_f rfl (bFF h8) rfl) ?_
        refine seq_run0 (stp_move (.dat _) rfl) ?_
        refine seq_split (j := 10) rfl rfl (fun h11 => ?_) (fun h11 => ?_) rfl
        · have h12 := un3 h11
          replace H := iff_ h12 H
          refine seq_g0 rfl rfl h11 (stp_fldP tyF54_3 rfl) ?_
          refine seq_g1 rfl rfl h11 (stp_load1 tyS3 rfl rfl) rfl ?_
          refine seq_g0 rfl rfl h11 (stp_fldP tyF54_4 rfl) ?_
          refine seq_g1 rfl rfl h11 (stp_load1 tyS3 rfl rfl) rfl ?_
          obtain ⟨r13, h14, H⟩ := bnd H
          refine seq_g0 rfl rfl h11 (stp_call (k_gateref2_in s1.Wait 0 s1.MostWait r13 h14) ⟨.inl rfl, .inl rfl, .inl rfl, trivial⟩) ?_
          refine seq_g0 rfl rfl h11 (stp_not rfl) ?_
          refine seq_run0 (stp_pick_f rfl (bFF h12) rfl) ?_
          refine seq_run0 (stp_move (.dat _) rfl) ?_
          refine seq_split (j := 18) rfl rfl (fun h15 => ?_) (fun h15 => ?_) rfl
          · have h16 := un3 h15
            replace H := iff_ h16 H
            refine seq_g0 rfl rfl h15 (stp_fldP tyF54_4 rfl) ?_
            refine seq_g1 rfl rfl h15 (stp_load1 tyS3 rfl rfl) rfl ?_
            refine seq_g0 rfl rfl h15 (stp_gtr rfl rfl) ?_
            refine seq_run0 (stp_pick_f rfl (bFF h16) rfl) ?_
            exact ⟨decide (3600000 < s1.MostWait), H, ⟨rfl, rfl, trivial⟩, ⟨rfl, trivial⟩⟩
          · have h17 := un4 h15
            replace H := ift h17 H
            refine seq_skip rfl rfl h15 ?_
            refine seq_skip rfl rfl h15 ?_
            refine seq_skip rfl rfl h15 ?_
            refine seq_run0 (stp_pick_t rfl (bTT h17) rfl) ?_
            exact ⟨true, H, ⟨rfl, rfl, trivial⟩, ⟨rfl, trivial⟩⟩
        · have h18 := un4 h11
          replace H := ift h18 H
          refine seq_skip rfl rfl h11 ?_
          refine seq_skip rfl rfl h11 ?_
          refine seq_skip rfl rfl h11 ?_
          refine seq_skip rfl rfl h11 ?_
          refine seq_skip rfl rfl h11 ?_
          refine seq_skip rfl rfl h11 ?_
          refine seq_run0 (stp_pick_t rfl (bTT h18) rfl) ?_
          refine seq_run0 (stp_move (.dat _) rfl) ?_
          refine seq_skip rfl rfl rfl ?_
          refine seq_skip rfl rfl rfl ?_
          refine seq_skip rfl rfl rfl ?_
          refine seq_run0 (stp_pick_t rfl rfl rfl) ?_
          exact ⟨true, H, ⟨rfl, rfl, trivial⟩, ⟨rfl, trivial⟩⟩
      · have h19 := un4 h7
        replace H := ift h19 H
        refine seq_skip rfl rfl h7 ?_
        refine seq_skip rfl rfl h7 ?_
        refine seq_skip rfl rfl h7 ?_
        refine seq_skip rfl rfl h7 ?_
        refine seq_run0 (stp_pick_t rfl (bTT h19) rfl) ?_
        refine seq_run0 (stp_move (.dat _) rfl) ?_
        refine seq_skip rfl rfl rfl ?_
        refine seq_skip rfl rfl rfl ?_
        refine seq_skip rfl rfl rfl ?_
        refine seq_skip rfl rfl rfl ?_
        refine seq_skip rfl rfl rfl ?_
        refine seq_skip rfl rfl rfl ?_
        refine seq_run0 (stp_pick_t rfl rfl rfl) ?_
        refine seq_run0 (stp_move (.dat _) rfl) ?_
        refine seq_skip rfl rfl rfl ?_
        refine seq_skip rfl rfl rfl ?_
        refine seq_skip rfl rfl rfl ?_
        refine seq_run0 (stp_pick_t rfl rfl rfl) ?_
        exact ⟨true, H, ⟨rfl, rfl, trivial⟩, ⟨rfl, trivial⟩⟩
    · rintro v20 H
      replace H : gateref2_SetupFault_J1 s1 v20 = some r := H
      unfold gateref2_SetupFault_J1 at H
      refine awp_cond _ rfl (fun h21 => ?_) (fun h21 => ?_)
      · replace H := ift h21 H
        refine awp_seq ?_
        refine awp_plain hN rfl ?_
        refine seq_run0 (stp_assign (.dat _) rfl) ?_
        refine awp_ret ?_
        cases H
        exact ⟨trivial, .inl rfl, trivial⟩
      · replace H := iff_ h21 H
        refine awp_skip ?_
        refine awp_seq ?_
        refine awp_seq ?_
        refine awp_plain hN rfl ?_
        refine seq_run0 (stp_fldP tyF54_5 rfl) ?_
        refine seq_run1 (stp_loadA tyS50 rfl rfl rfl) rfl ?_
        obtain ⟨r22, h23, H⟩ := bnd H
        refine seq_run0 (stp_call (k_gateref2_BudgetFault s1.Budget r22 h23) ⟨.inl rfl, trivial⟩) ?_
        refine seq_run0 (stp_assign (.dat _) rfl) ?_
        refine awp_seq ?_
        refine awp_plain hN rfl ?_
        refine seq_run0 (stp_move (.dat _) rfl) ?_
        refine seq_run0 (stp_neq rfl rfl) ?_
        refine awp_cond _ rfl (fun h24 => ?_) (fun h24 => ?_)
        · replace H := ift h24 H
          refine awp_seq ?_
          refine awp_plain hN rfl ?_
          refine seq_run0 (stp_move (.dat _) rfl) ?_
          refine seq_run0 (stp_assign (.dat _) rfl) ?_
          refine awp_ret ?_
          cases H
          exact ⟨trivial, .inl rfl, trivial⟩
        · replace H := iff_ h24 H
          refine awp_skip ?_
          refine awp_seq ?_
          refine awp_plain hN rfl ?_
          refine seq_run0 (stp_fldP tyF54_6 rfl) ?_
          refine seq_run1 (stp_loadA tyS52 rfl rfl rfl) rfl ?_
          obtain ⟨r25, h26, H⟩ := bnd H
          refine seq_run0 (stp_call (k_gateref2_OutliersFault s1.Outliers r25 h26) ⟨.inl rfl, trivial⟩) ?_
          refine seq_run0 (stp_assign (.dat _) rfl) ?_
          refine awp_ret ?_
          cases H
          exact ⟨trivial, .inl rfl, trivial⟩
theorem k_kit_IsMoment (n1 : Int) (r : (Bool)) (H : m_kit_IsMoment n1 = some r) : Fn Try.prog 93 [vint n1] (resOf [vbool r]) := by
  refine ⟨by kernel_rfl, pure_of (us := [vbool r]) Try.func93 rfl rfl rfl rfl fun X hN => ?_⟩
  unfold m_kit_IsMoment at H
  refine awp_seq ?_
  refine awp_plain hN rfl ?_
  refine seq_run0 (stp_assign (.dat _) rfl) ?_
  refine awp_seq ?_
  refine awp_plain hN rfl ?_
  refine seq_run0 (stp_move (.dat _) rfl) ?_
  refine seq_run0 (stp_geq rfl rfl) ?_
  refine seq_run0 (stp_move (.dat _) rfl) ?_
  refine seq_aT rfl rfl (fun hc => stp_move (.dat _) rfl) ?_
  refine seq_aT rfl rfl (fun hc => stp_lss (cnd (c := (decide (0 ≤ n1))) hc) rfl) ?_
  refine seq_run0 (stp_pick_and rfl (fun hb => (cnd (c := (decide (0 ≤ n1))) hb)) rfl) ?_
  refine seq_run0 (stp_assign (.dat _) rfl) ?_
  refine awp_ret ?_
  cases H
  exact ⟨trivial, .inl rfl, trivial⟩
theorem k_upstream_CheckCalls (l1 : (List S_api_Call)) (r : (Int)) (H : m_upstream_CheckCalls l1 = some r) : Fn Try.prog 30 [vlst (List.map C_api_Call l1)] (resOf [vint r]) := by
  refine ⟨by kernel_rfl, pure_of (us := [vint r]) Try.func30 rfl rfl rfl rfl fun X hN => ?_⟩
  unfold m_upstream_CheckCalls at H
  refine awp_seq ?_
  refine awp_plain hN rfl ?_
  refine seq_run0 (stp_assign (.dat _) rfl) ?_
  refine awp_seq ?_
  refine awp_seq ?_
  refine awp_plain hN rfl ?_
  refine seq_run0 (stp_move (.dat _) rfl) ?_
  refine seq_run0 (t_len tyU56 rfl) ?_
  refine seq_run0 (stp_gtr rfl rfl) ?_
  refine awp_cond _ rfl (fun h2 => ?_) (fun h2 => ?_)
  · replace H := ift h2 H
    refine awp_seq ?_
    refine awp_plain hN rfl ?_
    refine seq_run0 (stp_assign (.dat _) rfl) ?_
    refine awp_ret ?_
    cases H
    exact ⟨trivial, .inl rfl, trivial⟩
  · replace H := iff_ h2 H
    refine awp_skip ?_
    refine awp_seq ?_
    refine awp_plain hN rfl ?_
    refine seq_run2 (stp_mkB 1 tyM128) rfl ?_
    refine seq_run0 (stp_assign (.mp _) rfl) ?_
    refine awp_seq ?_
    refine awp_seq ?_
    refine awp_plain hN rfl ?_
    refine seq_run0 (stp_move (.dat _) rfl) ?_
    refine seq_run0 (t_len tyU56 rfl) ?_
    refine seq_run0 (stp_move (.dat _) rfl) ?_
    refine awp_block ?_
    obtain ⟨h7, H⟩ := gif H
    refine awp_forL (fun (k5 : Nat) (s : (Bs → Bool) × Nat) => [(0, .dat (vlst (List.map C_api_Call l1))), (3, .mp 1), (10, .dat (vlst (List.map C_api_Call l1))), (11, .dat (vint (l1.length : Int))), (12, .dat (vint (k5 : Int)))]) (fun (k5 : Nat) (s : (Bs → Bool) × Nat) => [(1, .opq none (mapBO Try.prog 9 4 s.2 s.1))]) ((fun _ => false), 0) H ⟨rfl, rfl, rfl, rfl, rfl, trivial⟩ ⟨rfl, trivial⟩ (fun _ _ => rfl) ?_ ?_
    · rintro ⟨m3, m4⟩ H
      replace H : upstream_CheckCalls_E1 m3 m4 = some r := H
      unfold upstream_CheckCalls_E1 at H
      refine awp_seq ?_
      refine awp_plain hN rfl ?_
      refine seq_run0 (stp_lss rfl rfl) ?_
      refine awp_seq ?_
      refine awp_cond _ rfl (fun h => (lt_t h).elim) (fun h => ?_)
      refine awp_exit ?_
      refine awp_seq ?_
      refine awp_plain hN rfl ?_
      refine seq_run0 (stp_assign (.dat _) rfl) ?_
      refine awp_ret ?_
      cases H
      exact ⟨trivial, .inl rfl, trivial⟩
    · rintro k5 x8 ⟨m3, m4⟩ q6 h9 h10 H hq6
      replace H : upstream_CheckCalls_L1 l1 k5 x8 m3 m4 = some q6 := H
      unfold upstream_CheckCalls_L1 at H
      refine awp_seq ?_
      refine awp_plain hN rfl ?_
      refine seq_run0 (stp_lss rfl rfl) ?_
      refine awp_seq ?_
      refine awp_cond _ rfl (fun h => ?_) (fun h => (lt_f h9 h).elim)
      refine awp_skip ?_
      refine awp_seq ?_
      refine awp_block ?_
      refine awp_seq ?_
      refine awp_plain hN rfl ?_
      refine seq_run0 (stp_move (.dat _) rfl) ?_
      refine seq_run0 (t_idx tyE56 (fun _ => rfl) rfl rfl h10) ?_
      refine seq_run0 (stp_loadEA tyS120 rfl (map_at h10) rfl) ?_
      refine seq_run2 (stp_alloc 2 tyZ120 rfl) rfl ?_
      refine seq_run0 (stp_assign (.dat _) rfl) ?_
      refine seq_run2 (stp_storeW tyS120 rfl rfl rfl rfl) rfl ?_
      refine awp_seq ?_
      refine awp_block ?_
      refine awp_seq ?_
      refine awp_plain hN rfl ?_
      refine seq_run0 (stp_fldP tyF120_0 rfl) ?_
      refine seq_run1 (stp_load1 tyS9 rfl rfl) rfl ?_
      obtain ⟨r11, h12, H⟩ := bnd H
      refine seq_run0 (stp_call (k_kit_IsKey x8.Id r11 h12) ⟨.inl rfl, trivial⟩) ?_
      refine seq_run0 (stp_not rfl) ?_
      refine seq_run0 (stp_assign (.dat _) rfl) ?_
      refine awp_cond _ rfl (fun h13 => ?_) (fun h13 => ?_)
      · replace H := ift h13 H
        refine awp_seq ?_
        refine awp_plain hN rfl ?_
        refine seq_run0 (stp_assign (.dat _) rfl) ?_
        refine awp_ret ?_
        replace H := retl H hq6
        cases H
        exact ⟨trivial, .inl rfl, trivial⟩
      · replace H := iff_ h13 H
        refine awp_seq ?_
        refine awp_plain hN rfl ?_
        refine seq_run0 (stp_move (.mp _) rfl) ?_
        refine seq_run0 (stp_fldP tyF120_0 rfl) ?_
        refine seq_run1 (stp_load1 tyS9 rfl rfl) rfl ?_
        obtain ⟨h14, H⟩ := gif H
        refine seq_run1 (stp_lookB tyM128 rfl rfl h14) rfl ?_
        refine seq_run0 (stp_assign (.dat _) rfl) ?_
        refine awp_cond _ rfl (fun h15 => ?_) (fun h15 => ?_)
        · replace H := ift h15 H
          refine awp_seq ?_
          refine awp_plain hN rfl ?_
          refine seq_run0 (stp_assign (.dat _) rfl) ?_
          refine awp_ret ?_
          replace H := retl H hq6
          cases H
          exact ⟨trivial, .inl rfl, trivial⟩
        · replace H := iff_ h15 H
          refine awp_seq ?_
          refine awp_plain hN rfl ?_
          refine seq_run0 (stp_fldP tyF120_1 rfl) ?_
          refine seq_run1 (stp_load1 tyS3 rfl rfl) rfl ?_
          obtain ⟨r16, h17, H⟩ := bnd H
          refine seq_run0 (stp_call (k_kit_IsMoment x8.At r16 h17) ⟨.inl rfl, trivial⟩) ?_
          refine seq_run0 (stp_not rfl) ?_
          refine seq_run0 (stp_assign (.dat _) rfl) ?_
          refine awp_cond _ rfl (fun h18 => ?_) (fun h18 => ?_)
          · replace H := ift h18 H
            refine awp_seq ?_
            refine awp_plain hN rfl ?_
            refine seq_run0 (stp_assign (.dat _) rfl) ?_
            refine awp_ret ?_
            replace H := retl H hq6
            cases H
            exact ⟨trivial, .inl rfl, trivial⟩
          · replace H := iff_ h18 H
            refine awp_joinE (ι := Bool) (fun i => [(0, .dat (vlst (List.map C_api_Call l1))), (3, .mp 1), (5, .ptr 2 0), (10, .dat (vlst (List.map C_api_Call l1))), (11, .dat (vint (l1.length : Int))), (12, .dat (vint (k5 : Int))), (32, .dat (vbool i))]) (fun i => [(1, .opq none (mapBO Try.prog 9 4 m4 m3)), (2, .box none 120 [.dat (vstr x8.Id), .dat (vint x8.At)])]) (fun i => upstream_CheckCalls_J2 m3 m4 x8 i = some q6) (fun i => rfl) ?_ ?_
            · skip
              refine awp_draw mixed hN rfl rfl ?_
              refine seq_run0 (stp_move (.dat _) rfl) ?_
              refine seq_run0 (stp_gtr rfl rfl) ?_
              refine seq_run0 (stp_move (.dat _) rfl) ?_
              refine seq_split (j := 2) rfl rfl (fun h19 => ?_) (fun h19 => ?_) rfl
              · have h20 := un1 h19
                replace H := ift h20 H
                refine seq_g0 rfl rfl h19 (stp_fldP tyF120_1 rfl) ?_
                refine seq_g1 rfl rfl h19 (stp_load1 tyS3 rfl rfl) rfl ?_
                refine seq_g0 rfl rfl h19 (stp_move (.dat _) rfl) ?_
                refine seq_g0 rfl rfl h19 (stp_move (.dat _) rfl) ?_
                refine seq_g0 rfl rfl h19 (stp_sub rfl rfl (by omega)) ?_
                obtain ⟨x21, h22, H⟩ := bnd H
                refine seq_g0 rfl rfl h19 (t_idxI tyE56 (fun _ => rfl) rfl rfl h22) ?_
                refine seq_g0 rfl rfl h19 (stp_fldE tyF120_1 rfl) ?_
                refine seq_g0 rfl rfl h19 (stp_loadE1 tyS3 rfl (map_at (at_some h22).2) rfl) ?_
                refine seq_g0 rfl rfl h19 (stp_lss rfl rfl) ?_
                refine seq_run0 (stp_pick_t rfl (bTT h20) rfl) ?_
                refine seq_run0 (stp_assign (.dat _) rfl) ?_
                refine ⟨rfl, ?_⟩
                exact ⟨decide (x8.At < x21.At), H, ⟨rfl, rfl, rfl, rfl, rfl, rfl, rfl, trivial⟩, ⟨rfl, rfl, trivial⟩⟩
              · have h23 := un2 h19
                replace H := iff_ h23 H
                refine seq_skip rfl rfl h19 ?_
                refine seq_skip rfl rfl h19 ?_
                refine seq_skip rfl rfl h19 ?_
                refine seq_skip rfl rfl h19 ?_
                refine seq_skip rfl rfl h19 ?_
                refine seq_skip rfl rfl h19 ?_
                refine seq_skip rfl rfl h19 ?_
                refine seq_skip rfl rfl h19 ?_
                refine seq_skip rfl rfl h19 ?_
                refine seq_run0 (stp_pick_f rfl (bFF h23) rfl) ?_
                refine seq_run0 (stp_assign (.dat _) rfl) ?_
                refine ⟨rfl, ?_⟩
                exact ⟨false, H, ⟨rfl, rfl, rfl, rfl, rfl, rfl, rfl, trivial⟩, ⟨rfl, rfl, trivial⟩⟩
            · rintro v24 H
              replace H : upstream_CheckCalls_J2 m3 m4 x8 v24 = some q6 := H
              unfold upstream_CheckCalls_J2 at H
              refine awp_cond _ rfl (fun h25 => ?_) (fun h25 => ?_)
              · replace H := ift h25 H
                refine awp_seq ?_
                refine awp_plain hN rfl ?_
                refine seq_run0 (stp_assign (.dat _) rfl) ?_
                refine awp_ret ?_
                replace H := retl H hq6
                cases H
                exact ⟨trivial, .inl rfl, trivial⟩
              · replace H := iff_ h25 H
                refine awp_skip ?_
                refine awp_plain hN rfl ?_
                refine seq_run0 (stp_move (.mp _) rfl) ?_
                refine seq_run0 (stp_fldP tyF120_0 rfl) ?_
                refine seq_run1 (stp_load1 tyS9 rfl rfl) rfl ?_
                obtain ⟨h26, H⟩ := gif H
                refine seq_run2 (stp_putB tyM128 rfl rfl rfl h26.1 h26.2) rfl ?_
                refine awp_plain hN rfl ?_
                refine seq_run0 (stp_add rfl rfl (by omega)) ?_
                refine seq_run0 (stp_move (.dat _) rfl) ?_
                exact ⟨_, backl H, ⟨rfl, rfl, rfl, rfl, rfl, trivial⟩, ⟨rfl, trivial⟩⟩
theorem k_slices_IndexFunc_L_api_Call_api_Call_ (s1 : (List S_api_Call)) (p1 : S_api_Call → Option (Bool)) (fv1 : Nat) (us1 : List V) (hp1 : ∀ a0 r, p1 a0 = some r → Fn Try.prog fv1 ([vagg (C_api_Call a0)] ++ us1) (resOf [vbool r])) (r : (Int)) (H : m_slices_IndexFunc_L_api_Call_api_Call_ s1 p1 = some r) : Fn Try.prog 123 [vlst (List.map C_api_Call s1), vfn fv1 us1] (resOf [vint r]) := by
  refine ⟨by kernel_rfl, pure_of (us := [vint r]) Try.func123 rfl rfl rfl rfl fun X hN => ?_⟩
  unfold m_slices_IndexFunc_L_api_Call_api_Call_ at H
  refine awp_seq ?_
  refine awp_plain hN rfl ?_
  refine seq_run0 (stp_assign (.dat _) rfl) ?_
  refine awp_seq ?_
  refine awp_seq ?_
  refine awp_plain hN rfl ?_
  refine seq_run0 (stp_move (.dat _) rfl) ?_
  refine seq_run0 (t_len tyU56 rfl) ?_
  refine seq_run0 (stp_move (.dat _) rfl) ?_
  refine awp_block ?_
  obtain ⟨h4, H⟩ := gif H
  refine awp_forL (fun (k2 : Nat) (s : Unit) => [(0, .dat (vlst (List.map C_api_Call s1))), (1, .dat (vfn fv1 us1)), (7, .dat (vint (s1.length : Int))), (8, .dat (vint (k2 : Int)))]) (fun (k2 : Nat) (s : Unit) => []) () H ⟨rfl, rfl, rfl, rfl, trivial⟩ trivial (fun _ _ => rfl) ?_ ?_
  · rintro ⟨⟩ H
    replace H : slices_IndexFunc_L_api_Call_api_Call__E1 = some r := H
    unfold slices_IndexFunc_L_api_Call_api_Call__E1 at H
    refine awp_seq ?_
    refine awp_plain hN rfl ?_
    refine seq_run0 (stp_lss rfl rfl) ?_
    refine awp_seq ?_
    refine awp_cond _ rfl (fun h => (lt_t h).elim) (fun h => ?_)
    refine awp_exit ?_
    refine awp_seq ?_
    refine awp_plain hN rfl ?_
    refine seq_run0 (stp_assign (.dat _) rfl) ?_
    refine awp_ret ?_
    cases H
    exact ⟨trivial, .inl rfl, trivial⟩
  · rintro k2 x5 ⟨⟩ q3 h6 h7 H hq3
    replace H : slices_IndexFunc_L_api_Call_api_Call__L1 p1 k2 x5 = some q3 := H
    unfold slices_IndexFunc_L_api_Call_api_Call__L1 at H
    refine awp_seq ?_
    refine awp_plain hN rfl ?_
    refine seq_run0 (stp_lss rfl rfl) ?_
    refine awp_seq ?_
    refine awp_cond _ rfl (fun h => ?_) (fun h => (lt_f h6 h).elim)
    refine awp_skip ?_
    refine awp_seq ?_
    refine awp_block ?_
    refine awp_seq ?_
    refine awp_plain hN rfl ?_
    refine seq_run0 (stp_move (.dat _) rfl) ?_
    refine seq_run0 (stp_assign (.dat _) rfl) ?_
    refine awp_seq ?_
    refine awp_plain hN rfl ?_
    refine seq_run0 (stp_move (.dat _) rfl) ?_
    refine seq_run0 (stp_move (.dat _) rfl) ?_
    refine seq_run0 (stp_move (.dat _) rfl) ?_
    refine seq_run0 (t_idx tyE56 (fun _ => rfl) rfl rfl h7) ?_
    refine seq_run0 (stp_loadEA tyS120 rfl (map_at h7) rfl) ?_
    obtain ⟨r8, h9, H⟩ := bnd H
    refine seq_run0 (stp_callv (hp1 x5 r8 h9) rfl ⟨.inl rfl, trivial⟩) ?_
    refine awp_cond _ rfl (fun h10 => ?_) (fun h10 => ?_)
    · replace H := ift h10 H
      refine awp_seq ?_
      refine awp_plain hN rfl ?_
      refine seq_run0 (stp_move (.dat _) rfl) ?_
      refine seq_run0 (stp_assign (.dat _) rfl) ?_
      refine awp_ret ?_
      replace H := retl H hq3
      cases H
      exact ⟨trivial, .inl rfl, trivial⟩
    · replace H := iff_ h10 H
      refine awp_skip ?_
      refine awp_plain hN rfl ?_
      refine seq_run0 (stp_add rfl rfl (by omega)) ?_
      refine seq_run0 (stp_move (.dat _) rfl) ?_
      exact ⟨_, backl H, ⟨rfl, rfl, rfl, rfl, trivial⟩, trivial⟩
theorem k_slices_ContainsFunc_L_api_Call_api_Call_ (s1 : (List S_api_Call)) (p1 : S_api_Call → Option (Bool)) (fv1 : Nat) (us1 : List V) (hp1 : ∀ a0 r, p1 a0 = some r → Fn Try.prog fv1 ([vagg (C_api_Call a0)] ++ us1) (resOf [vbool r])) (r : (Bool)) (H : m_slices_ContainsFunc_L_api_Call_api_Call_ s1 p1 = some r) : Fn Try.prog 94 [vlst (List.map C_api_Call s1), vfn fv1 us1] (resOf [vbool r]) := by
  refine ⟨by kernel_rfl, pure_of (us := [vbool r]) Try.func94 rfl rfl rfl rfl fun X hN => ?_⟩
  unfold m_slices_ContainsFunc_L_api_Call_api_Call_ at H
  refine awp_seq ?_
  refine awp_plain hN rfl ?_
  refine seq_run0 (stp_assign (.dat _) rfl) ?_
  refine awp_seq ?_
  refine awp_plain hN rfl ?_
  refine seq_run0 (stp_move (.dat _) rfl) ?_
  refine seq_run0 (stp_move (.dat _) rfl) ?_
  obtain ⟨r2, h3, H⟩ := bnd H
  refine seq_run0 (stp_call (k_slices_IndexFunc_L_api_Call_api_Call_ s1 p1 fv1 us1 hp1 r2 h3) ⟨.inl rfl, .inl rfl, trivial⟩) ?_
  refine seq_run0 (stp_geq rfl rfl) ?_
  refine seq_run0 (stp_assign (.dat _) rfl) ?_
  refine awp_ret ?_
  cases H
  exact ⟨trivial, .inl rfl, trivial⟩
theorem k_gateref2_CallsFault_1 (o1 : S_api_Call) (c2 : S_api_Call) (r : (Bool)) (H : m_gateref2_CallsFault_1 o1 c2 = some r) : Fn Try.prog 95 [vagg (C_api_Call o1), vcell [[vstr c2.Id, vint c2.At]] 0 0] (resOf [vbool r]) := by
  refine ⟨by kernel_rfl, pure_of (us := [vbool r]) Try.func95 rfl rfl rfl rfl fun X hN => ?_⟩
  unfold m_gateref2_CallsFault_1 at H
  refine awp_seq ?_
  refine awp_plain hN rfl ?_
  refine seq_run2 (stp_boxA 1 rfl) rfl ?_
  refine seq_run0 (stp_assign (.dat _) rfl) ?_
  refine awp_seq ?_
  refine awp_plain hN rfl ?_
  refine seq_run0 (stp_fldP tyF120_0 rfl) ?_
  refine seq_run1 (stp_load1 tyS9 rfl rfl) rfl ?_
  refine seq_run0 (stp_fldE tyF120_0 rfl) ?_
  refine seq_run0 (stp_loadE1 tyS9 rfl rfl rfl) ?_
  refine seq_run0 (stp_seql rfl rfl) ?_
  refine seq_run0 (stp_assign (.dat _) rfl) ?_
  refine awp_ret ?_
  cases H
  exact ⟨trivial, .inl rfl, trivial⟩
theorem k_gateref2_Moment (v1 : Int) (r : (Bool)) (H : m_gateref2_Moment v1 = some r) : Fn Try.prog 96 [vint v1] (resOf [vbool r]) := by
  refine ⟨by kernel_rfl, pure_of (us := [vbool r]) Try.func96 rfl rfl rfl rfl fun X hN => ?_⟩
  unfold m_gateref2_Moment at H
  refine awp_seq ?_
  refine awp_plain hN rfl ?_
  refine seq_run0 (stp_assign (.dat _) rfl) ?_
  refine awp_seq ?_
  refine awp_plain hN rfl ?_
  refine seq_run0 (stp_move (.dat _) rfl) ?_
  obtain ⟨r2, h3, H⟩ := bnd H
  refine seq_run0 (stp_call (k_gateref2_in v1 0 345686399999 r2 h3) ⟨.inl rfl, .inl rfl, .inl rfl, trivial⟩) ?_
  refine seq_run0 (stp_assign (.dat _) rfl) ?_
  refine awp_ret ?_
  cases H
  exact ⟨trivial, .inl rfl, trivial⟩
theorem k_gateref2_CallsFault (l1 : (List S_api_Call)) (r : (Int)) (H : m_gateref2_CallsFault l1 = some r) : Fn Try.prog 31 [vlst (List.map C_api_Call l1)] (resOf [vint r]) := by
  refine ⟨by kernel_rfl, pure_of (us := [vint r]) Try.func31 rfl rfl rfl rfl fun X hN => ?_⟩
  unfold m_gateref2_CallsFault at H
  refine awp_seq ?_
  refine awp_plain hN rfl ?_
  refine seq_run0 (stp_assign (.dat _) rfl) ?_
  refine awp_seq ?_
  refine awp_seq ?_
  refine awp_plain hN rfl ?_
  refine seq_run0 (stp_move (.dat _) rfl) ?_
  refine seq_run0 (t_len tyU56 rfl) ?_
  refine seq_run0 (stp_gtr rfl rfl) ?_
  refine awp_cond _ rfl (fun h2 => ?_) (fun h2 => ?_)
  · replace H := ift h2 H
    refine awp_seq ?_
    refine awp_plain hN rfl ?_
    refine seq_run0 (stp_assign (.dat _) rfl) ?_
    refine awp_ret ?_
    cases H
    exact ⟨trivial, .inl rfl, trivial⟩
  · replace H := iff_ h2 H
    refine awp_skip ?_
    refine awp_seq ?_
    refine awp_seq ?_
    refine awp_plain hN rfl ?_
    refine seq_run0 (stp_move (.dat _) rfl) ?_
    refine seq_run0 (t_len tyU56 rfl) ?_
    refine seq_run0 (stp_move (.dat _) rfl) ?_
    refine awp_block ?_
    obtain ⟨h5, H⟩ := gif H
    refine awp_forL (fun (k3 : Nat) (s : Unit) => [(0, .dat (vlst (List.map C_api_Call l1))), (8, .dat (vlst (List.map C_api_Call l1))), (9, .dat (vint (l1.length : Int))), (10, .dat (vint (k3 : Int)))]) (fun (k3 : Nat) (s : Unit) => []) () H ⟨rfl, rfl, rfl, rfl, trivial⟩ trivial (fun _ _ => rfl) ?_ ?_
    · rintro ⟨⟩ H
      replace H : gateref2_CallsFault_E1 = some r := H
      unfold gateref2_CallsFault_E1 at H
      refine awp_seq ?_
      refine awp_plain hN rfl ?_
      refine seq_run0 (stp_lss rfl rfl) ?_
      refine awp_seq ?_
      refine awp_cond _ rfl (fun h => (lt_t h).elim) (fun h => ?_)
      refine awp_exit ?_
      refine awp_seq ?_
      refine awp_plain hN rfl ?_
      refine seq_run0 (stp_assign (.dat _) rfl) ?_
      refine awp_ret ?_
      cases H
      exact ⟨trivial, .inl rfl, trivial⟩
    · rintro k3 x6 ⟨⟩ q4 h7 h8 H hq4
      replace H : gateref2_CallsFault_L1 l1 k3 x6 = some q4 := H
      unfold gateref2_CallsFault_L1 at H
      refine awp_seq ?_
      refine awp_plain hN rfl ?_
      refine seq_run0 (stp_lss rfl rfl) ?_
      refine awp_seq ?_
      refine awp_cond _ rfl (fun h => ?_) (fun h => (lt_f h7 h).elim)
      refine awp_skip ?_
      refine awp_seq ?_
      refine awp_block ?_
      refine awp_seq ?_
      refine awp_plain hN rfl ?_
      refine seq_run0 (stp_move (.dat _) rfl) ?_
      refine seq_run0 (t_idx tyE56 (fun _ => rfl) rfl rfl h8) ?_
      refine seq_run0 (stp_loadEA tyS120 rfl (map_at h8) rfl) ?_
      refine seq_run2 (stp_alloc 1 tyZ120 rfl) rfl ?_
      refine seq_run0 (stp_assign (.dat _) rfl) ?_
      refine seq_run2 (stp_storeW tyS120 rfl rfl rfl rfl) rfl ?_
      refine awp_block ?_
      refine awp_seq ?_
      refine awp_plain hN rfl ?_
      refine seq_run0 (stp_fldP tyF120_0 rfl) ?_
      refine seq_run1 (stp_load1 tyS9 rfl rfl) rfl ?_
      obtain ⟨r9, h10, H⟩ := bnd H
      refine seq_run0 (stp_call (k_gateref2_Key x6.Id r9 h10) ⟨.inl rfl, trivial⟩) ?_
      refine seq_run0 (stp_not rfl) ?_
      refine seq_run0 (stp_assign (.dat _) rfl) ?_
      refine awp_cond _ rfl (fun h11 => ?_) (fun h11 => ?_)
      · replace H := ift h11 H
        refine awp_seq ?_
        refine awp_plain hN rfl ?_
        refine seq_run0 (stp_assign (.dat _) rfl) ?_
        refine awp_ret ?_
        replace H := retl H hq4
        cases H
        exact ⟨trivial, .inl rfl, trivial⟩
      · replace H := iff_ h11 H
        refine awp_seq ?_
        refine awp_frzB 1 [vstr x6.Id, vint x6.At] rfl rfl ?_
        refine awp_plain hN rfl ?_
        refine seq_run0 (stp_move (.dat _) rfl) ?_
        refine seq_run0 (stp_move (.dat _) rfl) ?_
        obtain ⟨l12, h13, H⟩ := bnd H
        refine seq_run0 (t_subL tyE56 (fun _ => rfl) rfl rfl rfl h13) ?_
        refine seq_run0 (stp_mkfn (us := [_]) ⟨rfl, trivial⟩) ?_
        obtain ⟨r14, h15, H⟩ := bnd H
        refine seq_run0 (stp_call (k_slices_ContainsFunc_L_api_Call_api_Call_ l12 (fun (a0 : S_api_Call) => m_gateref2_CallsFault_1 a0 x6) 95 [vcell [[vstr x6.Id, vint x6.At]] 0 0] (fun a0 r h => k_gateref2_CallsFault_1 a0 x6 r h) r14 h15) ⟨.inl rfl, .inl rfl, trivial⟩) ?_
        refine seq_run0 (stp_assign (.dat _) rfl) ?_
        refine awp_cond _ rfl (fun h16 => ?_) (fun h16 => ?_)
        · replace H := ift h16 H
          refine awp_seq ?_
          refine awp_plain hN rfl ?_
          refine seq_run0 (stp_assign (.dat _) rfl) ?_
          refine awp_ret ?_
          replace H := retl H hq4
          cases H
          exact ⟨trivial, .inl rfl, trivial⟩
        · replace H := iff_ h16 H
          refine awp_seq ?_
          refine awp_plain hN rfl ?_
          refine seq_run0 (stp_fldE tyF120_1 rfl) ?_
          refine seq_run0 (stp_loadE1 tyS3 rfl rfl rfl) ?_
          obtain ⟨r17, h18, H⟩ := bnd H
          refine seq_run0 (stp_call (k_gateref2_Moment x6.At r17 h18) ⟨.inl rfl, trivial⟩) ?_
          refine seq_run0 (stp_not rfl) ?_
          refine seq_run0 (stp_assign (.dat _) rfl) ?_
          refine awp_cond _ rfl (fun h19 => ?_) (fun h19 => ?_)
          · replace H := ift h19 H
            refine awp_seq ?_
            refine awp_plain hN rfl ?_
            refine seq_run0 (stp_assign (.dat _) rfl) ?_
            refine awp_ret ?_
            replace H := retl H hq4
            cases H
            exact ⟨trivial, .inl rfl, trivial⟩
          · replace H := iff_ h19 H
            refine awp_joinE (ι := Bool) (fun i => [(0, .dat (vlst (List.map C_api_Call l1))), (8, .dat (vlst (List.map C_api_Call l1))), (9, .dat (vint (l1.length : Int))), (10, .dat (vint (k3 : Int))), (31, .dat (vbool i))]) (fun i => []) (fun i => gateref2_CallsFault_J2 i = some q4) (fun i => rfl) ?_ ?_
            · skip
              refine awp_draw mixed hN rfl rfl ?_
              refine seq_run0 (stp_move (.dat _) rfl) ?_
              refine seq_run0 (stp_gtr rfl rfl) ?_
              refine seq_run0 (stp_move (.dat _) rfl) ?_
              refine seq_split (j := 2) rfl rfl (fun h20 => ?_) (fun h20 => ?_) rfl
              · have h21 := un1 h20
                replace H := ift h21 H
                refine seq_g0 rfl rfl h20 (stp_fldE tyF120_1 rfl) ?_
                refine seq_g0 rfl rfl h20 (stp_loadE1 tyS3 rfl rfl rfl) ?_
                refine seq_g0 rfl rfl h20 (stp_move (.dat _) rfl) ?_
                refine seq_g0 rfl rfl h20 (stp_move (.dat _) rfl) ?_
                refine seq_g0 rfl rfl h20 (stp_sub rfl rfl (by omega)) ?_
                obtain ⟨x22, h23, H⟩ := bnd H
                refine seq_g0 rfl rfl h20 (t_idxI tyE56 (fun _ => rfl) rfl rfl h23) ?_
                refine seq_g0 rfl rfl h20 (stp_fldE tyF120_1 rfl) ?_
                refine seq_g0 rfl rfl h20 (stp_loadE1 tyS3 rfl (map_at (at_some h23).2) rfl) ?_
                refine seq_g0 rfl rfl h20 (stp_lss rfl rfl) ?_
                refine seq_run0 (stp_pick_t rfl (bTT h21) rfl) ?_
                refine seq_run0 (stp_assign (.dat _) rfl) ?_
                refine ⟨rfl, ?_⟩
                exact ⟨decide (x6.At < x22.At), H, ⟨rfl, rfl, rfl, rfl, rfl, trivial⟩, trivial⟩
              · have h24 := un2 h20
                replace H := iff_ h24 H
                refine seq_skip rfl rfl h20 ?_
                refine seq_skip rfl rfl h20 ?_
                refine seq_skip rfl rfl h20 ?_
                refine seq_skip rfl rfl h20 ?_
                refine seq_skip rfl rfl h20 ?_
                refine seq_skip rfl rfl h20 ?_
                refine seq_skip rfl rfl h20 ?_
                refine seq_skip rfl rfl h20 ?_
                refine seq_skip rfl rfl h20 ?_
                refine seq_run0 (stp_pick_f rfl (bFF h24) rfl) ?_
                refine seq_run0 (stp_assign (.dat _) rfl) ?_
                refine ⟨rfl, ?_⟩
                exact ⟨false, H, ⟨rfl, rfl, rfl, rfl, rfl, trivial⟩, trivial⟩
            · rintro v25 H
              replace H : gateref2_CallsFault_J2 v25 = some q4 := H
              unfold gateref2_CallsFault_J2 at H
              refine awp_cond _ rfl (fun h26 => ?_) (fun h26 => ?_)
              · replace H := ift h26 H
                refine awp_seq ?_
                refine awp_plain hN rfl ?_
                refine seq_run0 (stp_assign (.dat _) rfl) ?_
                refine awp_ret ?_
                replace H := retl H hq4
                cases H
                exact ⟨trivial, .inl rfl, trivial⟩
              · replace H := iff_ h26 H
                refine awp_skip ?_
                refine awp_plain hN rfl ?_
                refine seq_run0 (stp_add rfl rfl (by omega)) ?_
                refine seq_run0 (stp_move (.dat _) rfl) ?_
                exact ⟨_, backl H, ⟨rfl, rfl, rfl, rfl, trivial⟩, trivial⟩
end Go.Proofs.Ytmcegaabopcmfaa
