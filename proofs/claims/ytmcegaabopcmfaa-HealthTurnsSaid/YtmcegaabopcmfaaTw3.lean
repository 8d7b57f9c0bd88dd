/- Walks along the models. Printed by a program. -/
import Derived.Test.YtmcegaabopcmfaaTw2
namespace Go.Proofs.Ytmcegaabopcmfaa
open Go.RowKit
set_option linter.unusedVariables false
set_option maxRecDepth 20000
theorem k_slices_BinarySearchFunc_L_api_Instance_api_Instance_string_ (x1 : (List S_api_Instance)) (target2 : Bs) (p2 : S_api_Instance → Bs → Option (Int)) (fv2 : Nat) (us2 : List V) (hp2 : ∀ a0 a1 r, p2 a0 a1 = some r → Fn Try.prog fv2 ([vagg (C_api_Instance a0), vstr a1] ++ us2) (resOf [vint r])) (r : (Int × Bool)) (H : m_slices_BinarySearchFunc_L_api_Instance_api_Instance_string_ x1 target2 p2 = some r) : Fn Try.prog 124 [vlst (List.map C_api_Instance x1), vstr target2, vfn fv2 us2] (resOf [vint r.1, vbool r.2]) := by
  refine ⟨by kernel_rfl, pure_of (us := [vint r.1, vbool r.2]) Try.func124 rfl rfl rfl rfl fun X hN => ?_⟩
  unfold m_slices_BinarySearchFunc_L_api_Instance_api_Instance_string_ at H
  refine awp_seq ?_
  refine awp_plain hN rfl ?_
  refine seq_run0 (stp_assign (.dat _) rfl) ?_
  refine seq_run0 (stp_assign (.dat _) rfl) ?_
  refine awp_seq ?_
  refine awp_plain hN rfl ?_
  refine seq_run0 (stp_move (.dat _) rfl) ?_
  refine seq_run0 (t_len tyU48 rfl) ?_
  refine seq_run0 (stp_assign (.dat _) rfl) ?_
  refine awp_seq ?_
  refine awp_plain hN rfl ?_
  refine seq_run0 (stp_move (.dat _) rfl) ?_
  refine seq_run0 (stp_assign (.dat _) rfl) ?_
  refine seq_run0 (stp_assign (.dat _) rfl) ?_
  refine awp_joinE (ι := Int) (fun i => [(0, .dat (vlst (List.map C_api_Instance x1))), (1, .dat (vstr target2)), (2, .dat (vfn fv2 us2)), (8, .dat (vint (x1.length : Int))), (9, .dat (vint i))]) (fun i => []) (fun i => slices_BinarySearchFunc_L_api_Instance_api_Instance_string__J1 x1 target2 p2 i = some r) (fun i => rfl) ?_ ?_
  · skip
    refine awp_block ?_
    refine awp_iter (fun (s : Int × Int) => [(0, .dat (vlst (List.map C_api_Instance x1))), (1, .dat (vstr target2)), (2, .dat (vfn fv2 us2)), (8, .dat (vint (x1.length : Int))), (9, .dat (vint s.1)), (10, .dat (vint s.2))]) (fun (s : Int × Int) => []) (0, (x1.length : Int)) H ⟨rfl, rfl, rfl, rfl, rfl, rfl, trivial⟩ trivial (fun _ => rfl) ?_
    rintro ⟨i3, j4⟩ q5 H hq5
    replace H : slices_BinarySearchFunc_L_api_Instance_api_Instance_string__L2 x1 target2 p2 i3 j4 = some q5 := H
    unfold slices_BinarySearchFunc_L_api_Instance_api_Instance_string__L2 at H
    refine awp_seq ?_
    refine awp_seq ?_
    refine awp_plain hN rfl ?_
    refine seq_run0 (stp_move (.dat _) rfl) ?_
    refine seq_run0 (stp_move (.dat _) rfl) ?_
    refine seq_run0 (stp_lss rfl rfl) ?_
    refine awp_cond _ rfl (fun h6 => ?_) (fun h6 => ?_)
    · replace H := ift h6 H
      refine awp_skip ?_
      refine awp_block ?_
      refine awp_seq ?_
      refine awp_plain hN rfl ?_
      refine seq_run0 (stp_move (.dat _) rfl) ?_
      refine seq_run0 (stp_move (.dat _) rfl) ?_
      refine seq_run0 (stp_wrap _ rfl rfl (.inl ⟨rfl, rfl⟩)) ?_
      refine seq_run0 (stp_conv tyU3 tyU184 rfl) ?_
      refine seq_run0 (stp_dat (stp_shr rfl rfl (by decide)) rfl) ?_
      refine seq_run0 (stp_conv tyU184 tyU3 rfl) ?_
      refine seq_run0 (stp_assign (.dat _) rfl) ?_
      refine awp_seq ?_
      refine awp_plain hN rfl ?_
      refine seq_run0 (stp_move (.dat _) rfl) ?_
      refine seq_run0 (stp_move (.dat _) rfl) ?_
      refine seq_run0 (stp_move (.dat _) rfl) ?_
      obtain ⟨x7, h8, H⟩ := bnd H
      refine seq_run0 (t_idxI tyE48 (fun _ => rfl) rfl rfl h8) ?_
      refine seq_run0 (stp_loadEA tyS114 rfl (map_at (at_some h8).2) rfl) ?_
      refine seq_run0 (stp_move (.dat _) rfl) ?_
      obtain ⟨r9, h10, H⟩ := bnd H
      refine seq_run0 (stp_callv (hp2 x7 target2 r9 h10) rfl ⟨.inl rfl, .inl rfl, trivial⟩) ?_
      refine seq_run0 (stp_lss rfl rfl) ?_
      refine awp_cond _ rfl (fun h11 => ?_) (fun h11 => ?_)
      · replace H := ift h11 H
        refine awp_plain hN rfl ?_
        refine seq_run0 (stp_move (.dat _) rfl) ?_
        refine seq_run0 (stp_wrap _ rfl rfl (.inl ⟨rfl, rfl⟩)) ?_
        refine seq_run0 (stp_assign (.dat _) rfl) ?_
        exact ⟨_, backl H, ⟨rfl, rfl, rfl, rfl, rfl, rfl, trivial⟩, trivial⟩
      · replace H := iff_ h11 H
        refine awp_plain hN rfl ?_
        refine seq_run0 (stp_move (.dat _) rfl) ?_
        refine seq_run0 (stp_assign (.dat _) rfl) ?_
        exact ⟨_, backl H, ⟨rfl, rfl, rfl, rfl, rfl, rfl, trivial⟩, trivial⟩
    · replace H := iff_ h6 H
      refine awp_exit ?_
      replace H := outl H hq5
      exact ⟨i3, H, ⟨rfl, rfl, rfl, rfl, rfl, trivial⟩, trivial⟩
  · rintro i12 H
    replace H : slices_BinarySearchFunc_L_api_Instance_api_Instance_string__J1 x1 target2 p2 i12 = some r := H
    unfold slices_BinarySearchFunc_L_api_Instance_api_Instance_string__J1 at H
    refine awp_joinE (ι := Bool) (fun i => [(6, .dat (vint i12)), (7, .dat (vbool i))]) (fun i => []) (fun i => slices_BinarySearchFunc_L_api_Instance_api_Instance_string__J3 i12 i = some r) (fun i => rfl) ?_ ?_
    · skip
      refine awp_plain hN rfl ?_
      refine seq_run0 (stp_move (.dat _) rfl) ?_
      refine seq_run0 (stp_move (.dat _) rfl) ?_
      refine seq_run0 (stp_move (.dat _) rfl) ?_
      refine seq_run0 (stp_lss rfl rfl) ?_
      refine seq_run0 (stp_move (.dat _) rfl) ?_
      refine seq_split (j := 4) rfl rfl (fun h13 => ?_) (fun h13 => ?_) rfl
      · have h14 := un1 h13
        replace H := ift h14 H
        refine seq_g0 rfl rfl h13 (stp_move (.dat _) rfl) ?_
        refine seq_g0 rfl rfl h13 (stp_move (.dat _) rfl) ?_
        refine seq_g0 rfl rfl h13 (stp_move (.dat _) rfl) ?_
        obtain ⟨x15, h16, H⟩ := bnd H
        refine seq_g0 rfl rfl h13 (t_idxI tyE48 (fun _ => rfl) rfl rfl h16) ?_
        refine seq_g0 rfl rfl h13 (stp_loadEA tyS114 rfl (map_at (at_some h16).2) rfl) ?_
        refine seq_g0 rfl rfl h13 (stp_move (.dat _) rfl) ?_
        obtain ⟨r17, h18, H⟩ := bnd H
        refine seq_g0 rfl rfl h13 (stp_callv (hp2 x15 target2 r17 h18) rfl ⟨.inl rfl, .inl rfl, trivial⟩) ?_
        refine seq_g0 rfl rfl h13 (stp_eql rfl rfl) ?_
        refine seq_run0 (stp_pick_t rfl (bTT h14) rfl) ?_
        refine seq_run0 (stp_assign (.dat _) rfl) ?_
        refine seq_run0 (stp_assign (.dat _) rfl) ?_
        exact ⟨decide (r17 = 0), H, ⟨rfl, rfl, trivial⟩, trivial⟩
      · have h19 := un2 h13
        replace H := iff_ h19 H
        refine seq_skip rfl rfl h13 ?_
        refine seq_skip rfl rfl h13 ?_
        refine seq_skip rfl rfl h13 ?_
        refine seq_skip rfl rfl h13 ?_
        refine seq_skip rfl rfl h13 ?_
        refine seq_skip rfl rfl h13 ?_
        refine seq_skip rfl rfl h13 ?_
        refine seq_skip rfl rfl h13 ?_
        refine seq_run0 (stp_pick_f rfl (bFF h19) rfl) ?_
        refine seq_run0 (stp_assign (.dat _) rfl) ?_
        refine seq_run0 (stp_assign (.dat _) rfl) ?_
        exact ⟨false, H, ⟨rfl, rfl, trivial⟩, trivial⟩
    · rintro v20 H
      replace H : slices_BinarySearchFunc_L_api_Instance_api_Instance_string__J3 i12 v20 = some r := H
      unfold slices_BinarySearchFunc_L_api_Instance_api_Instance_string__J3 at H
      refine awp_ret ?_
      cases H
      exact ⟨trivial, .inl rfl, .inl rfl, trivial⟩
theorem k_upstream_place_1 (x1 : S_api_Instance) (k2 : Bs) (r : (Int)) (H : m_upstream_place_1 x1 k2 = some r) : Fn Try.prog 125 [vagg (C_api_Instance x1), vstr k2] (resOf [vint r]) := by
  refine ⟨by kernel_rfl, pure_of (us := [vint r]) Try.func125 rfl rfl rfl rfl fun X hN => ?_⟩
  unfold m_upstream_place_1 at H
  refine awp_seq ?_
  refine awp_plain hN rfl ?_
  refine seq_run2 (stp_boxA 1 rfl) rfl ?_
  refine seq_run0 (stp_assign (.dat _) rfl) ?_
  refine awp_seq ?_
  refine awp_plain hN rfl ?_
  refine seq_run0 (stp_fldP tyF114_0 rfl) ?_
  refine seq_run1 (stp_load1 tyS9 rfl rfl) rfl ?_
  refine seq_run0 (stp_move (.dat _) rfl) ?_
  obtain ⟨r3, h4, H⟩ := bnd H
  refine seq_run0 (stp_call (k_strings_Compare x1.Key k2 r3 h4) ⟨.inl rfl, .inl rfl, trivial⟩) ?_
  refine seq_run0 (stp_assign (.dat _) rfl) ?_
  refine awp_ret ?_
  cases H
  exact ⟨trivial, .inl rfl, trivial⟩
theorem k_upstream_place (l1 : (List S_api_Instance)) (key2 : Bs) (r : (Int × Bool)) (H : m_upstream_place l1 key2 = some r) : Fn Try.prog 97 [vlst (List.map C_api_Instance l1), vstr key2] (resOf [vint r.1, vbool r.2]) := by
  refine ⟨by kernel_rfl, pure_of (us := [vint r.1, vbool r.2]) Try.func97 rfl rfl rfl rfl fun X hN => ?_⟩
  unfold m_upstream_place at H
  refine awp_seq ?_
  refine awp_plain hN rfl ?_
  refine seq_run0 (stp_assign (.dat _) rfl) ?_
  refine seq_run0 (stp_assign (.dat _) rfl) ?_
  refine awp_seq ?_
  refine awp_plain hN rfl ?_
  refine seq_run0 (stp_move (.dat _) rfl) ?_
  refine seq_run0 (stp_move (.dat _) rfl) ?_
  obtain ⟨r3, h4, H⟩ := bnd H
  refine seq_run0 (stp_callW (k_slices_BinarySearchFunc_L_api_Instance_api_Instance_string_ l1 key2 (fun (a0 : S_api_Instance) (a1 : Bs) => m_upstream_place_1 a0 a1) 125 [] (fun a0 a1 r h => k_upstream_place_1 a0 a1 r h) r3 h4) ⟨.inl (.inl rfl), .inl (.inl rfl), .inr ⟨_, rfl, rfl⟩, trivial⟩) ?_
  refine seq_run0 (stp_ext rfl rfl) ?_
  refine seq_run0 (stp_ext rfl rfl) ?_
  refine seq_run0 (stp_assign (.dat _) rfl) ?_
  refine seq_run0 (stp_assign (.dat _) rfl) ?_
  refine awp_ret ?_
  cases H
  exact ⟨trivial, .inl rfl, .inl rfl, trivial⟩
theorem k_upstream_CheckPhases (v1 : (List S_api_Instance)) (v2 : (List S_api_Phase)) (r : (Int)) (H : m_upstream_CheckPhases v1 v2 = some r) : Fn Try.prog 32 [vlst (List.map C_api_Instance v1), vlst (List.map C_api_Phase v2)] (resOf [vint r]) := by
  refine ⟨by kernel_rfl, pure_of (us := [vint r]) Try.func32 rfl rfl rfl rfl fun X hN => ?_⟩
  unfold m_upstream_CheckPhases at H
  refine awp_seq ?_
  refine awp_plain hN rfl ?_
  refine seq_run0 (stp_assign (.dat _) rfl) ?_
  refine awp_seq ?_
  refine awp_seq ?_
  refine awp_plain hN rfl ?_
  refine seq_run0 (stp_move (.dat _) rfl) ?_
  obtain ⟨r3, h4, H⟩ := bnd H
  refine seq_run0 (stp_call (k_upstream_CheckInstances v1 r3 h4) ⟨.inl rfl, trivial⟩) ?_
  refine seq_run0 (stp_assign (.dat _) rfl) ?_
  refine awp_seq ?_
  refine awp_plain hN rfl ?_
  refine seq_run0 (stp_move (.dat _) rfl) ?_
  refine seq_run0 (stp_neq rfl rfl) ?_
  refine awp_cond _ rfl (fun h5 => ?_) (fun h5 => ?_)
  · replace H := ift h5 H
    refine awp_seq ?_
    refine awp_plain hN rfl ?_
    refine seq_run0 (stp_move (.dat _) rfl) ?_
    refine seq_run0 (stp_assign (.dat _) rfl) ?_
    refine awp_ret ?_
    cases H
    exact ⟨trivial, .inl rfl, trivial⟩
  · replace H := iff_ h5 H
    refine awp_skip ?_
    refine awp_seq ?_
    refine awp_seq ?_
    refine awp_plain hN rfl ?_
    refine seq_run0 (stp_move (.dat _) rfl) ?_
    refine seq_run0 (t_len tyU58 rfl) ?_
    refine seq_run0 (stp_gtr rfl rfl) ?_
    refine awp_cond _ rfl (fun h6 => ?_) (fun h6 => ?_)
    · replace H := ift h6 H
      refine awp_seq ?_
      refine awp_plain hN rfl ?_
      refine seq_run0 (stp_assign (.dat _) rfl) ?_
      refine awp_ret ?_
      cases H
      exact ⟨trivial, .inl rfl, trivial⟩
    · replace H := iff_ h6 H
      refine awp_skip ?_
      refine awp_seq ?_
      refine awp_seq ?_
      refine awp_plain hN rfl ?_
      refine seq_run0 (stp_move (.dat _) rfl) ?_
      refine seq_run0 (t_len tyU58 rfl) ?_
      refine seq_run0 (stp_move (.dat _) rfl) ?_
      refine awp_block ?_
      obtain ⟨h9, H⟩ := gif H
      refine awp_forL (fun (k7 : Nat) (s : Unit) => [(0, .dat (vlst (List.map C_api_Instance v1))), (1, .dat (vlst (List.map C_api_Phase v2))), (19, .dat (vlst (List.map C_api_Phase v2))), (20, .dat (vint (v2.length : Int))), (21, .dat (vint (k7 : Int)))]) (fun (k7 : Nat) (s : Unit) => []) () H ⟨rfl, rfl, rfl, rfl, rfl, trivial⟩ trivial (fun _ _ => rfl) ?_ ?_
      · rintro ⟨⟩ H
        replace H : upstream_CheckPhases_E1 = some r := H
        unfold upstream_CheckPhases_E1 at H
        refine awp_seq ?_
        refine awp_plain hN rfl ?_
        refine seq_run0 (stp_lss rfl rfl) ?_
        refine awp_seq ?_
        refine awp_cond _ rfl (fun h => (lt_t h).elim) (fun h => ?_)
        refine awp_exit ?_
        refine awp_seq ?_
        refine awp_plain hN rfl ?_
        refine seq_run0 (stp_assign (.dat _) rfl) ?_
        refine awp_ret ?_
        cases H
        exact ⟨trivial, .inl rfl, trivial⟩
      · rintro k7 x10 ⟨⟩ q8 h11 h12 H hq8
        replace H : upstream_CheckPhases_L1 v1 v2 k7 x10 = some q8 := H
        unfold upstream_CheckPhases_L1 at H
        refine awp_seq ?_
        refine awp_plain hN rfl ?_
        refine seq_run0 (stp_lss rfl rfl) ?_
        refine awp_seq ?_
        refine awp_cond _ rfl (fun h => ?_) (fun h => (lt_f h11 h).elim)
        refine awp_skip ?_
        refine awp_joinE (ι := Unit) (fun i => [(0, .dat (vlst (List.map C_api_Instance v1))), (1, .dat (vlst (List.map C_api_Phase v2))), (19, .dat (vlst (List.map C_api_Phase v2))), (20, .dat (vint (v2.length : Int))), (21, .dat (vint (k7 : Int)))]) (fun i => []) (fun i => upstream_CheckPhases_J2 = some q8) (fun i => rfl) ?_ ?_
        · skip
          refine awp_block ?_
          refine awp_seq ?_
          refine awp_plain hN rfl ?_
          refine seq_run0 (stp_move (.dat _) rfl) ?_
          refine seq_run0 (t_idx tyE58 (fun _ => rfl) rfl rfl h12) ?_
          refine seq_run0 (stp_loadEA tyS125 rfl (map_at h12) rfl) ?_
          refine seq_run2 (stp_alloc 1 tyZ125 rfl) rfl ?_
          refine seq_run0 (stp_assign (.dat _) rfl) ?_
          refine seq_run2 (stp_storeW tyS125 rfl rfl rfl rfl) rfl ?_
          refine awp_seq ?_
          refine awp_seq ?_
          refine awp_plain hN rfl ?_
          refine seq_run0 (stp_move (.dat _) rfl) ?_
          refine seq_run0 (stp_fldP tyF125_0 rfl) ?_
          refine seq_run1 (stp_load1 tyS9 rfl rfl) rfl ?_
          obtain ⟨r13, h14, H⟩ := bnd H
          refine seq_run0 (stp_call (k_upstream_place v1 x10.Instance r13 h14) ⟨.inl rfl, .inl rfl, trivial⟩) ?_
          refine seq_run0 (stp_move (.dat _) rfl) ?_
          refine seq_run0 (stp_ext rfl rfl) ?_
          refine seq_run0 (stp_ext rfl rfl) ?_
          refine seq_run0 (stp_assign (.dat _) rfl) ?_
          refine seq_run0 (stp_assign (.dat _) rfl) ?_
          refine awp_seq ?_
          refine awp_plain hN rfl ?_
          refine seq_run0 (stp_move (.dat _) rfl) ?_
          refine seq_run0 (stp_not rfl) ?_
          refine awp_cond _ rfl (fun h15 => ?_) (fun h15 => ?_)
          · replace H := ift h15 H
            refine awp_seq ?_
            refine awp_plain hN rfl ?_
            refine seq_run0 (stp_assign (.dat _) rfl) ?_
            refine awp_ret ?_
            replace H := retl H hq8
            cases H
            exact ⟨trivial, .inl rfl, trivial⟩
          · replace H := iff_ h15 H
            refine awp_skip ?_
            refine awp_seq ?_
            refine awp_joinE (ι := Bool) (fun i => [(0, .dat (vlst (List.map C_api_Instance v1))), (1, .dat (vlst (List.map C_api_Phase v2))), (6, .dat (vint (k7 : Int))), (7, .ptr 1 0), (19, .dat (vlst (List.map C_api_Phase v2))), (20, .dat (vint (v2.length : Int))), (21, .dat (vint (k7 : Int))), (63, .dat (vbool i))]) (fun i => [(1, .box none 125 [.dat (vstr x10.Instance), .dat (vint x10.Time.From), .dat (vint x10.Time.To), .dat (vint x10.Status), .dat (vint x10.Took)])]) (fun i => upstream_CheckPhases_J3 v2 k7 x10 i = some q8) (fun i => rfl) ?_ ?_
            · skip
              refine awp_plain hN rfl ?_
              refine seq_run0 (stp_fldP tyF125_1 rfl) ?_
              refine seq_run0 (stp_fldP tyF123_0 rfl) ?_
              refine seq_run1 (stp_load1 tyS3 rfl rfl) rfl ?_
              refine seq_run0 (stp_lss rfl rfl) ?_
              refine seq_run0 (stp_move (.dat _) rfl) ?_
              refine seq_split (j := 4) rfl rfl (fun h16 => ?_) (fun h16 => ?_) rfl
              · have h17 := un3 h16
                replace H := iff_ h17 H
                refine seq_g0 rfl rfl h16 (stp_fldP tyF125_1 rfl) ?_
                refine seq_g0 rfl rfl h16 (stp_fldP tyF123_0 rfl) ?_
                refine seq_g1 rfl rfl h16 (stp_load1 tyS3 rfl rfl) rfl ?_
                refine seq_g0 rfl rfl h16 (stp_fldP tyF125_1 rfl) ?_
                refine seq_g0 rfl rfl h16 (stp_fldP tyF123_1 rfl) ?_
                refine seq_g1 rfl rfl h16 (stp_load1 tyS3 rfl rfl) rfl ?_
                refine seq_g0 rfl rfl h16 (stp_geq rfl rfl) ?_
                refine seq_run0 (stp_pick_f rfl (bFF h17) rfl) ?_
                refine seq_run0 (stp_move (.dat _) rfl) ?_
                refine seq_split (j := 13) rfl rfl (fun h18 => ?_) (fun h18 => ?_) rfl
                · have h19 := un3 h18
                  replace H := iff_ h19 H
                  refine seq_g0 rfl rfl h18 (stp_fldP tyF125_1 rfl) ?_
                  refine seq_g0 rfl rfl h18 (stp_fldP tyF123_1 rfl) ?_
                  refine seq_g1 rfl rfl h18 (stp_load1 tyS3 rfl rfl) rfl ?_
                  refine seq_g0 rfl rfl h18 (stp_gtr rfl rfl) ?_
                  refine seq_run0 (stp_pick_f rfl (bFF h19) rfl) ?_
                  refine seq_run0 (stp_move (.dat _) rfl) ?_
                  refine seq_split (j := 19) rfl rfl (fun h20 => ?_) (fun h20 => ?_) rfl
                  · have h21 := un3 h20
                    replace H := iff_ h21 H
                    refine seq_g0 rfl rfl h20 (stp_fldP tyF125_2 rfl) ?_
                    refine seq_g1 rfl rfl h20 (stp_load1 tyS3 rfl rfl) rfl ?_
                    obtain ⟨r22, h23, H⟩ := bnd H
                    refine seq_g0 rfl rfl h20 (stp_call (k_kit_Outside x10.Status 100 599 r22 h23) ⟨.inl rfl, .inl rfl, .inl rfl, trivial⟩) ?_
                    refine seq_run0 (stp_pick_f rfl (bFF h21) rfl) ?_
                    refine seq_run0 (stp_move (.dat _) rfl) ?_
                    refine seq_split (j := 24) rfl rfl (fun h24 => ?_) (fun h24 => ?_) rfl
                    · have h25 := un3 h24
                      replace H := iff_ h25 H
                      refine seq_g0 rfl rfl h24 (stp_fldP tyF125_3 rfl) ?_
                      refine seq_g1 rfl rfl h24 (stp_load1 tyS3 rfl rfl) rfl ?_
                      obtain ⟨r26, h27, H⟩ := bnd H
                      refine seq_g0 rfl rfl h24 (stp_call (k_kit_Outside x10.Took 0 3600000 r26 h27) ⟨.inl rfl, .inl rfl, .inl rfl, trivial⟩) ?_
                      refine seq_run0 (stp_pick_f rfl (bFF h25) rfl) ?_
                      exact ⟨r26, H, ⟨rfl, rfl, rfl, rfl, rfl, rfl, rfl, rfl, trivial⟩, ⟨rfl, trivial⟩⟩
                    · have h28 := un4 h24
                      replace H := ift h28 H
                      refine seq_skip rfl rfl h24 ?_
                      refine seq_skip rfl rfl h24 ?_
                      refine seq_skip rfl rfl h24 ?_
                      refine seq_run0 (stp_pick_t rfl (bTT h28) rfl) ?_
                      exact ⟨true, H, ⟨rfl, rfl, rfl, rfl, rfl, rfl, rfl, rfl, trivial⟩, ⟨rfl, trivial⟩⟩
                  · have h29 := un4 h20
                    replace H := ift h29 H
                    refine seq_skip rfl rfl h20 ?_
                    refine seq_skip rfl rfl h20 ?_
                    refine seq_skip rfl rfl h20 ?_
                    refine seq_run0 (stp_pick_t rfl (bTT h29) rfl) ?_
                    refine seq_run0 (stp_move (.dat _) rfl) ?_
                    refine seq_skip rfl rfl rfl ?_
                    refine seq_skip rfl rfl rfl ?_
                    refine seq_skip rfl rfl rfl ?_
                    refine seq_run0 (stp_pick_t rfl rfl rfl) ?_
                    exact ⟨true, H, ⟨rfl, rfl, rfl, rfl, rfl, rfl, rfl, rfl, trivial⟩, ⟨rfl, trivial⟩⟩
                · have h30 := un4 h18
                  replace H := ift h30 H
                  refine seq_skip rfl rfl h18 ?_
                  refine seq_skip rfl rfl h18 ?_
                  refine seq_skip rfl rfl h18 ?_
                  refine seq_skip rfl rfl h18 ?_
                  refine seq_run0 (stp_pick_t rfl (bTT h30) rfl) ?_
                  refine seq_run0 (stp_move (.dat _) rfl) ?_
                  refine seq_skip rfl rfl rfl ?_
                  refine seq_skip rfl rfl rfl ?_
                  refine seq_skip rfl rfl rfl ?_
                  refine seq_run0 (stp_pick_t rfl rfl rfl) ?_
                  refine seq_run0 (stp_move (.dat _) rfl) ?_
                  refine seq_skip rfl rfl rfl ?_
                  refine seq_skip rfl rfl rfl ?_
                  refine seq_skip rfl rfl rfl ?_
                  refine seq_run0 (stp_pick_t rfl rfl rfl) ?_
                  exact ⟨true, H, ⟨rfl, rfl, rfl, rfl, rfl, rfl, rfl, rfl, trivial⟩, ⟨rfl, trivial⟩⟩
              · have h31 := un4 h16
                replace H := ift h31 H
                refine seq_skip rfl rfl h16 ?_
                refine seq_skip rfl rfl h16 ?_
                refine seq_skip rfl rfl h16 ?_
                refine seq_skip rfl rfl h16 ?_
                refine seq_skip rfl rfl h16 ?_
                refine seq_skip rfl rfl h16 ?_
                refine seq_skip rfl rfl h16 ?_
                refine seq_run0 (stp_pick_t rfl (bTT h31) rfl) ?_
                refine seq_run0 (stp_move (.dat _) rfl) ?_
                refine seq_skip rfl rfl rfl ?_
                refine seq_skip rfl rfl rfl ?_
                refine seq_skip rfl rfl rfl ?_
                refine seq_skip rfl rfl rfl ?_
                refine seq_run0 (stp_pick_t rfl rfl rfl) ?_
                refine seq_run0 (stp_move (.dat _) rfl) ?_
                refine seq_skip rfl rfl rfl ?_
                refine seq_skip rfl rfl rfl ?_
                refine seq_skip rfl rfl rfl ?_
                refine seq_run0 (stp_pick_t rfl rfl rfl) ?_
                refine seq_run0 (stp_move (.dat _) rfl) ?_
                refine seq_skip rfl rfl rfl ?_
                refine seq_skip rfl rfl rfl ?_
                refine seq_skip rfl rfl rfl ?_
                refine seq_run0 (stp_pick_t rfl rfl rfl) ?_
                exact ⟨true, H, ⟨rfl, rfl, rfl, rfl, rfl, rfl, rfl, rfl, trivial⟩, ⟨rfl, trivial⟩⟩
            · rintro v32 H
              replace H : upstream_CheckPhases_J3 v2 k7 x10 v32 = some q8 := H
              unfold upstream_CheckPhases_J3 at H
              refine awp_cond _ rfl (fun h33 => ?_) (fun h33 => ?_)
              · replace H := ift h33 H
                refine awp_seq ?_
                refine awp_plain hN rfl ?_
                refine seq_run0 (stp_assign (.dat _) rfl) ?_
                refine awp_ret ?_
                replace H := retl H hq8
                cases H
                exact ⟨trivial, .inl rfl, trivial⟩
              · replace H := iff_ h33 H
                refine awp_skip ?_
                refine awp_seq ?_
                refine awp_seq ?_
                refine awp_plain hN rfl ?_
                refine seq_run0 (stp_move (.dat _) rfl) ?_
                refine seq_run0 (stp_eql rfl rfl) ?_
                refine awp_cond _ rfl (fun h34 => ?_) (fun h34 => ?_)
                · replace H := ift h34 H
                  refine awp_exit ?_
                  exact ⟨(), H, ⟨rfl, rfl, rfl, rfl, rfl, trivial⟩, trivial⟩
                · replace H := iff_ h34 H
                  refine awp_skip ?_
                  refine awp_seq ?_
                  refine awp_plain hN rfl ?_
                  refine seq_run0 (stp_move (.dat _) rfl) ?_
                  refine seq_run0 (stp_move (.dat _) rfl) ?_
                  refine seq_run0 (stp_sub rfl rfl (by omega)) ?_
                  obtain ⟨x35, h36, H⟩ := bnd H
                  refine seq_run0 (t_idxI tyE58 (fun _ => rfl) rfl rfl h36) ?_
                  refine seq_run0 (stp_loadEA tyS125 rfl (map_at (at_some h36).2) rfl) ?_
                  refine seq_run2 (stp_alloc 2 tyZ125 rfl) rfl ?_
                  refine seq_run2 (stp_storeW tyS125 rfl rfl rfl rfl) rfl ?_
                  refine awp_seq ?_
                  refine awp_plain hN rfl ?_
                  refine seq_run0 (stp_fldP tyF125_0 rfl) ?_
                  refine seq_run1 (stp_load1 tyS9 rfl rfl) rfl ?_
                  refine seq_run0 (stp_fldP tyF125_0 rfl) ?_
                  refine seq_run1 (stp_load1 tyS9 rfl rfl) rfl ?_
                  refine seq_run0 (stp_slss rfl rfl) ?_
                  refine seq_run0 (stp_move (.dat _) rfl) ?_
                  refine seq_aF rfl rfl (fun hc => stp_fldP tyF125_0 rfl) ?_
                  refine seq_arF rfl rfl (fun hc => stp_load1 tyS9 (cnd (c := (!(Op.bytesLess x10.Instance x35.Instance))) hc) rfl) rfl anti_p ?_
                  refine seq_aF rfl rfl (fun hc => stp_fldP tyF125_0 rfl) ?_
                  refine seq_arF rfl rfl (fun hc => stp_load1 tyS9 (cnd (c := (!(Op.bytesLess x10.Instance x35.Instance))) hc) rfl) rfl anti_p ?_
                  refine seq_aF rfl rfl (fun hc => stp_seql (cnd (c := (!(Op.bytesLess x10.Instance x35.Instance))) hc) (cnd (c := (!(Op.bytesLess x10.Instance x35.Instance))) hc)) ?_
                  refine seq_aF rfl rfl (fun hc => stp_move (.dat _) (cnd (c := (!(Op.bytesLess x10.Instance x35.Instance))) hc)) ?_
                  refine seq_bT rfl rfl (fun hc => stp_fldP tyF125_1 rfl) ?_
                  refine seq_bT rfl rfl (fun hc => stp_fldP tyF123_0 (cnd (c := ((!(Op.bytesLess x10.Instance x35.Instance)) && (decide (x10.Instance = x35.Instance)))) hc)) ?_
                  refine seq_brT rfl rfl (fun hc => stp_load1 tyS3 (cnd (c := ((!(Op.bytesLess x10.Instance x35.Instance)) && (decide (x10.Instance = x35.Instance)))) hc) rfl) rfl anti_p ?_
                  refine seq_bT rfl rfl (fun hc => stp_fldP tyF125_1 rfl) ?_
                  refine seq_bT rfl rfl (fun hc => stp_fldP tyF123_1 (cnd (c := ((!(Op.bytesLess x10.Instance x35.Instance)) && (decide (x10.Instance = x35.Instance)))) hc)) ?_
                  refine seq_brT rfl rfl (fun hc => stp_load1 tyS3 (cnd (c := ((!(Op.bytesLess x10.Instance x35.Instance)) && (decide (x10.Instance = x35.Instance)))) hc) rfl) rfl anti_p ?_
                  refine seq_bT rfl rfl (fun hc => stp_lss (cnd (c := ((!(Op.bytesLess x10.Instance x35.Instance)) && (decide (x10.Instance = x35.Instance)))) hc) (cnd (c := ((!(Op.bytesLess x10.Instance x35.Instance)) && (decide (x10.Instance = x35.Instance)))) hc)) ?_
                  refine seq_aF rfl rfl (fun hc => stp_pick_and (cnd (c := (!(Op.bytesLess x10.Instance x35.Instance))) hc) (fun hb => (cnd (c := ((!(Op.bytesLess x10.Instance x35.Instance)) && (decide (x10.Instance = x35.Instance)))) (andI hc hb))) rfl) ?_
                  refine seq_run0 (stp_pick_or rfl rfl (fun hb => (cnd (c := (!(Op.bytesLess x10.Instance x35.Instance))) (notI hb)))) ?_
                  refine awp_cond _ rfl (fun h37 => ?_) (fun h37 => ?_)
                  · replace H := ift h37 H
                    refine awp_seq ?_
                    refine awp_plain hN rfl ?_
                    refine seq_run0 (stp_assign (.dat _) rfl) ?_
                    refine awp_ret ?_
                    replace H := retl H hq8
                    cases H
                    exact ⟨trivial, .inl rfl, trivial⟩
                  · replace H := iff_ h37 H
                    refine awp_skip ?_
                    exact ⟨(), H, ⟨rfl, rfl, rfl, rfl, rfl, trivial⟩, trivial⟩
        · rintro ⟨⟩ H
          replace H : upstream_CheckPhases_J2 = some q8 := H
          unfold upstream_CheckPhases_J2 at H
          refine awp_plain hN rfl ?_
          refine seq_run0 (stp_add rfl rfl (by omega)) ?_
          refine seq_run0 (stp_move (.dat _) rfl) ?_
          exact ⟨_, backl H, ⟨rfl, rfl, rfl, rfl, rfl, trivial⟩, trivial⟩
theorem k_upstream_weights (l1 : (List S_api_Instance)) (r : (Int)) (H : m_upstream_weights l1 = some r) : Fn Try.prog 118 [vlst (List.map C_api_Instance l1)] (resOf [vint r]) := by
  refine ⟨by kernel_rfl, pure_of (us := [vint r]) Try.func118 rfl rfl rfl rfl fun X hN => ?_⟩
  unfold m_upstream_weights at H
  refine awp_seq ?_
  refine awp_plain hN rfl ?_
  refine seq_run0 (stp_assign (.dat _) rfl) ?_
  refine awp_seq ?_
  refine awp_plain hN rfl ?_
  refine seq_run0 (stp_assign (.dat _) rfl) ?_
  refine awp_seq ?_
  refine awp_seq ?_
  refine awp_plain hN rfl ?_
  refine seq_run0 (stp_move (.dat _) rfl) ?_
  refine seq_run0 (t_len tyU48 rfl) ?_
  refine seq_run0 (stp_move (.dat _) rfl) ?_
  refine awp_block ?_
  obtain ⟨h5, H⟩ := gif H
  refine awp_forL (fun (k3 : Nat) (s : Int) => [(3, .dat (vint s)), (6, .dat (vlst (List.map C_api_Instance l1))), (7, .dat (vint (l1.length : Int))), (8, .dat (vint (k3 : Int)))]) (fun (k3 : Nat) (s : Int) => []) 0 H ⟨rfl, rfl, rfl, rfl, trivial⟩ trivial (fun _ _ => rfl) ?_ ?_
  · rintro sum2 H
    replace H : upstream_weights_E1 sum2 = some r := H
    unfold upstream_weights_E1 at H
    refine awp_seq ?_
    refine awp_plain hN rfl ?_
    refine seq_run0 (stp_lss rfl rfl) ?_
    refine awp_seq ?_
    refine awp_cond _ rfl (fun h => (lt_t h).elim) (fun h => ?_)
    refine awp_exit ?_
    refine awp_seq ?_
    refine awp_plain hN rfl ?_
    refine seq_run0 (stp_move (.dat _) rfl) ?_
    refine seq_run0 (stp_assign (.dat _) rfl) ?_
    refine awp_ret ?_
    cases H
    exact ⟨trivial, .inl rfl, trivial⟩
  · rintro k3 x6 sum2 q4 h7 h8 H hq4
    replace H : upstream_weights_L1 k3 x6 sum2 = some q4 := H
    unfold upstream_weights_L1 at H
    refine awp_seq ?_
    refine awp_plain hN rfl ?_
    refine seq_run0 (stp_lss rfl rfl) ?_
    refine awp_seq ?_
    refine awp_cond _ rfl (fun h => ?_) (fun h => (lt_f h7 h).elim)
    refine awp_skip ?_
    refine awp_seq ?_
    refine awp_block ?_
    refine awp_seq ?_
    refine awp_plain hN rfl ?_
    refine seq_run0 (t_idx tyE48 (fun _ => rfl) rfl rfl h8) ?_
    refine seq_run0 (stp_loadEA tyS114 rfl (map_at h8) rfl) ?_
    refine seq_run2 (stp_alloc 1 tyZ114 rfl) rfl ?_
    refine seq_run2 (stp_storeW tyS114 rfl rfl rfl rfl) rfl ?_
    refine awp_plain hN rfl ?_
    refine seq_run0 (stp_move (.dat _) rfl) ?_
    refine seq_run0 (stp_fldP tyF114_1 rfl) ?_
    refine seq_run1 (stp_load1 tyS3 rfl rfl) rfl ?_
    refine seq_run0 (stp_wrap _ rfl rfl (.inl ⟨rfl, rfl⟩)) ?_
    refine seq_run0 (stp_assign (.dat _) rfl) ?_
    refine awp_plain hN rfl ?_
    refine seq_run0 (stp_add rfl rfl (by omega)) ?_
    refine seq_run0 (stp_move (.dat _) rfl) ?_
    exact ⟨_, backl H, ⟨rfl, rfl, rfl, rfl, trivial⟩, trivial⟩
theorem k_upstream_Round (v1 : (List S_api_Instance)) (v2 : Int) (r : ((List Bs) × Int)) (H : m_upstream_Round v1 v2 = some r) : Fn Try.prog 75 [vlst (List.map C_api_Instance v1), vint v2] (resOf [vlst (List.map C_string r.1), vint r.2]) := by
  refine ⟨by kernel_rfl, pure_of (us := [vlst (List.map C_string r.1), vint r.2]) Try.func75 rfl rfl rfl rfl fun X hN => ?_⟩
  unfold m_upstream_Round at H
  refine awp_seq ?_
  refine awp_plain hN rfl ?_
  refine seq_run0 (stp_assign (.dat _) rfl) ?_
  refine seq_run0 (stp_assign (.dat _) rfl) ?_
  refine awp_seq ?_
  refine awp_seq ?_
  refine awp_plain hN rfl ?_
  refine seq_run0 (stp_move (.dat _) rfl) ?_
  obtain ⟨r3, h4, H⟩ := bnd H
  refine seq_run0 (stp_call (k_upstream_CheckInstances v1 r3 h4) ⟨.inl rfl, trivial⟩) ?_
  refine seq_run0 (stp_assign (.dat _) rfl) ?_
  refine awp_seq ?_
  refine awp_plain hN rfl ?_
  refine seq_run0 (stp_move (.dat _) rfl) ?_
  refine seq_run0 (stp_neq rfl rfl) ?_
  refine awp_cond _ rfl (fun h5 => ?_) (fun h5 => ?_)
  · replace H := ift h5 H
    refine awp_seq ?_
    refine awp_plain hN rfl ?_
    refine seq_run0 (stp_move (.dat _) rfl) ?_
    refine seq_run0 (stp_assign (.dat _) rfl) ?_
    refine seq_run0 (stp_assign (.dat _) rfl) ?_
    refine awp_ret ?_
    cases H
    exact ⟨trivial, .inr ⟨rfl, rfl⟩, .inl rfl, trivial⟩
  · replace H := iff_ h5 H
    refine awp_skip ?_
    refine awp_seq ?_
    refine awp_seq ?_
    refine awp_plain hN rfl ?_
    refine seq_run0 (stp_move (.dat _) rfl) ?_
    obtain ⟨r6, h7, H⟩ := bnd H
    refine seq_run0 (stp_call (k_kit_Outside v2 0 2000 r6 h7) ⟨.inl rfl, .inl rfl, .inl rfl, trivial⟩) ?_
    refine awp_cond _ rfl (fun h8 => ?_) (fun h8 => ?_)
    · replace H := ift h8 H
      refine awp_seq ?_
      refine awp_plain hN rfl ?_
      refine seq_run0 (stp_assign (.dat _) rfl) ?_
      refine seq_run0 (stp_assign (.dat _) rfl) ?_
      refine awp_ret ?_
      cases H
      exact ⟨trivial, .inr ⟨rfl, rfl⟩, .inl rfl, trivial⟩
    · replace H := iff_ h8 H
      refine awp_skip ?_
      refine awp_seq ?_
      refine awp_seq ?_
      refine awp_plain hN rfl ?_
      refine seq_run0 (stp_move (.dat _) rfl) ?_
      refine seq_run0 (t_len tyU48 rfl) ?_
      refine seq_run0 (stp_eql rfl rfl) ?_
      refine awp_cond _ rfl (fun h9 => ?_) (fun h9 => ?_)
      · replace H := ift h9 H
        refine awp_seq ?_
        refine awp_plain hN rfl ?_
        refine seq_run0 (stp_assign (.dat _) rfl) ?_
        refine seq_run0 (stp_assign (.dat _) rfl) ?_
        refine awp_ret ?_
        cases H
        exact ⟨trivial, .inr ⟨rfl, rfl⟩, .inl rfl, trivial⟩
      · replace H := iff_ h9 H
        refine awp_skip ?_
        refine awp_seq ?_
        refine awp_plain hN rfl ?_
        refine seq_run0 (stp_move (.dat _) rfl) ?_
        refine seq_run0 (t_len tyU48 rfl) ?_
        obtain ⟨h10, H⟩ := gif H
        refine seq_run2 (t_make (C := C_int) 1 0 tyL22 tyZ3 rfl rfl rfl rfl h10 rfl) rfl ?_
        refine seq_run0 (stp_assign (.row _ _) rfl) ?_
        refine awp_seq ?_
        refine awp_plain hN rfl ?_
        refine seq_run0 (stp_move (.dat _) rfl) ?_
        obtain ⟨r11, h12, H⟩ := bnd H
        refine seq_run0 (stp_call (k_upstream_weights v1 r11 h12) ⟨.inl rfl, trivial⟩) ?_
        refine seq_run0 (stp_assign (.dat _) rfl) ?_
        refine awp_seq ?_
        refine awp_plain hN rfl ?_
        refine seq_run0 (stp_assign (.dat _) rfl) ?_
        refine awp_seq ?_
        refine awp_seq ?_
        refine awp_plain hN rfl ?_
        refine seq_run0 (stp_move (.dat _) rfl) ?_
        refine seq_run0 (stp_move (.dat _) rfl) ?_
        refine awp_block ?_
        refine awp_nilrow 9 2 9 1 rfl rfl rfl ?_
        obtain ⟨h17, H⟩ := gif H
        refine awp_rng (fun (k15 : Nat) (s : (List Int) × (List Bs)) => [(0, .dat (vlst (List.map C_api_Instance v1))), (7, .row 1 s.1.length), (8, .dat (vint r11)), (9, .row 2 s.2.length), (28, .dat (vint v2)), (29, .dat (vint (k15 : Int)))]) (fun (k15 : Nat) (s : (List Int) × (List Bs)) => [(1, .row 3 1 (List.map C_int s.1)), (2, .row 9 1 (List.map C_string s.2))]) ((List.replicate v1.length 0), []) H ⟨rfl, congrArg (Slot.row 1) (by simp), rfl, congrArg (Slot.row 2) (by simp), rfl, rfl, trivial⟩ ⟨rfl, rfl, trivial⟩ (fun _ _ => rfl) ?_ ?_
        · rintro ⟨l13, l14⟩ H
          replace H : upstream_Round_E1 l13 l14 = some r := H
          unfold upstream_Round_E1 at H
          refine awp_seq ?_
          refine awp_plain hN rfl ?_
          refine seq_run0 (stp_lss rfl rfl) ?_
          refine awp_seq ?_
          refine awp_cond _ rfl (fun h => (lt_tI h).elim) (fun h => ?_)
          refine awp_exit ?_
          refine awp_seq ?_
          refine awp_plain hN rfl ?_
          refine seq_run0 (stp_move (.row _ _) rfl) ?_
          refine seq_run0 (stp_assign (.row _ _) rfl) ?_
          refine seq_run0 (stp_assign (.dat _) rfl) ?_
          refine awp_ret ?_
          cases H
          exact ⟨trivial, t_slotv rfl rfl, .inl rfl, trivial⟩
        · rintro k15 ⟨l13, l14⟩ q16 h18 H hq16
          replace H : upstream_Round_L1 v1 r11 k15 l13 l14 = some q16 := H
          unfold upstream_Round_L1 at H
          refine awp_seq ?_
          refine awp_plain hN rfl ?_
          refine seq_run0 (stp_lss rfl rfl) ?_
          refine awp_seq ?_
          refine awp_cond _ rfl (fun h => ?_) (fun h => (lt_fI h18 h).elim)
          refine awp_skip ?_
          refine awp_seq ?_
          refine awp_block ?_
          refine awp_seq ?_
          refine awp_plain hN rfl ?_
          refine seq_run0 (stp_assign (.dat _) rfl) ?_
          refine awp_seq ?_
          refine awp_seq ?_
          refine awp_plain hN rfl ?_
          refine seq_run0 (stp_move (.dat _) rfl) ?_
          refine seq_run0 (t_len tyU48 rfl) ?_
          refine seq_run0 (stp_move (.dat _) rfl) ?_
          refine awp_block ?_
          obtain ⟨h23, H⟩ := gif H
          refine awp_forL (fun (k21 : Nat) (s : Int × (List Int)) => [(0, .dat (vlst (List.map C_api_Instance v1))), (7, .row 1 s.2.length), (8, .dat (vint r11)), (9, .row 2 l14.length), (10, .dat (vint s.1)), (28, .dat (vint v2)), (29, .dat (vint (k15 : Int))), (31, .dat (vlst (List.map C_api_Instance v1))), (32, .dat (vint (v1.length : Int))), (33, .dat (vint (k21 : Int)))]) (fun (k21 : Nat) (s : Int × (List Int)) => [(1, .row 3 1 (List.map C_int s.2)), (2, .row 9 1 (List.map C_string l14))]) (0, l13) H ⟨rfl, rfl, rfl, rfl, rfl, rfl, rfl, rfl, rfl, rfl, trivial⟩ ⟨rfl, rfl, trivial⟩ (fun _ _ => rfl) ?_ ?_
          · rintro ⟨v19, l20⟩ H
            replace H : upstream_Round_E2 v1 r11 l14 v19 l20 = some q16 := H
            unfold upstream_Round_E2 at H
            refine awp_seq ?_
            refine awp_plain hN rfl ?_
            refine seq_run0 (stp_lss rfl rfl) ?_
            refine awp_seq ?_
            refine awp_cond _ rfl (fun h => (lt_t h).elim) (fun h => ?_)
            refine awp_exit ?_
            refine awp_seq ?_
            refine awp_plain hN rfl ?_
            refine seq_run0 (stp_move (.row _ _) rfl) ?_
            refine seq_run0 (stp_move (.dat _) rfl) ?_
            obtain ⟨x25, h26, H⟩ := bnd H
            refine seq_run1 (t_idxRI tyE22 rfl rfl rfl h26) rfl ?_
            refine seq_run1 (t_loadR1 tyS3 rfl rfl (at_some h26).2 rfl) rfl ?_
            refine seq_run0 (stp_move (.dat _) rfl) ?_
            refine seq_run0 (stp_wrap _ rfl rfl (.inr (.inl ⟨rfl, rfl⟩))) ?_
            refine seq_run1 (t_idxRI tyE22 rfl rfl rfl h26) rfl ?_
            refine seq_run2 (t_storeR (wr (x25 - r11)) tyS3 rfl rfl rfl rfl (at_some h26).2 rfl rfl) rfl ?_
            refine awp_plain hN rfl ?_
            refine seq_run0 (stp_move (.row _ _) rfl) ?_
            refine seq_run0 (stp_move (.dat _) rfl) ?_
            refine seq_run0 (stp_move (.dat _) rfl) ?_
            obtain ⟨x27, h28, H⟩ := bnd H
            refine seq_run0 (t_idxI tyE48 (fun _ => rfl) rfl rfl h28) ?_
            refine seq_run0 (stp_fldE tyF114_0 rfl) ?_
            refine seq_run0 (stp_loadE1 tyS9 rfl (map_at (at_some h28).2) rfl) ?_
            refine seq_run0 (stp_dat (u' := vlst (List.map C_string [x27.Key])) (stp_lit [[_]] tyL73 ⟨rfl, .inl ⟨_, rfl, rfl, rfl⟩, rfl, trivial⟩ rfl rfl) rfl) ?_
            obtain ⟨h29, H⟩ := gif H
            refine seq_run2 (t_app tyL73 (fun _ => rfl) rfl rfl rfl ⟨by simp, by simpa using h29⟩ rfl) rfl ?_
            refine seq_run0 (stp_assign (.row _ _) rfl) ?_
            refine awp_plain hN rfl ?_
            refine seq_run0 (stp_add rfl rfl (by omega)) ?_
            refine seq_run0 (stp_move (.dat _) rfl) ?_
            exact ⟨_, backl H, ⟨rfl, congrArg (Slot.row 1) (by simp), rfl, rfl, rfl, rfl, trivial⟩, ⟨rfl, rfl, trivial⟩⟩
          · rintro k21 x24 ⟨v19, l20⟩ q22 h30 h31 H hq22
            replace H : upstream_Round_L2 k21 x24 v19 l20 = some q22 := H
            unfold upstream_Round_L2 at H
            refine awp_seq ?_
            refine awp_plain hN rfl ?_
            refine seq_run0 (stp_lss rfl rfl) ?_
            refine awp_seq ?_
            refine awp_cond _ rfl (fun h => ?_) (fun h => (lt_f h30 h).elim)
            refine awp_skip ?_
            refine awp_joinE (ι := Int × (List Int)) (fun i => [(0, .dat (vlst (List.map C_api_Instance v1))), (7, .row 1 i.2.length), (8, .dat (vint r11)), (9, .row 2 l14.length), (10, .dat (vint i.1)), (28, .dat (vint v2)), (29, .dat (vint (k15 : Int))), (31, .dat (vlst (List.map C_api_Instance v1))), (32, .dat (vint (v1.length : Int))), (33, .dat (vint (k21 : Int)))]) (fun i => [(1, .row 3 1 (List.map C_int i.2)), (2, .row 9 1 (List.map C_string l14))]) (fun i => upstream_Round_J3 i.1 i.2 = some q22) (fun i => rfl) ?_ ?_
            · skip
              refine awp_block ?_
              refine awp_seq ?_
              refine awp_plain hN rfl ?_
              refine seq_run0 (stp_move (.dat _) rfl) ?_
              refine seq_run0 (t_idx tyE48 (fun _ => rfl) rfl rfl h31) ?_
              refine seq_run0 (stp_loadEA tyS114 rfl (map_at h31) rfl) ?_
              refine seq_run2 (stp_alloc 3 tyZ114 rfl) rfl ?_
              refine seq_run0 (stp_assign (.dat _) rfl) ?_
              refine seq_run2 (stp_storeW tyS114 rfl rfl rfl rfl) rfl ?_
              refine awp_seq ?_
              refine awp_draw mixed hN rfl rfl ?_
              refine seq_run0 (stp_move (.row _ _) rfl) ?_
              refine seq_run0 (stp_move (.dat _) rfl) ?_
              obtain ⟨x32, h33, H⟩ := bnd H
              refine seq_run1 (t_idxR tyE22 rfl rfl rfl h33) rfl ?_
              refine seq_run1 (t_loadR1 tyS3 rfl rfl h33 rfl) rfl ?_
              refine seq_run0 (stp_fldP tyF114_1 rfl) ?_
              refine seq_run1 (stp_load1 tyS3 rfl rfl) rfl ?_
              refine seq_run0 (stp_wrap _ rfl rfl (.inl ⟨rfl, rfl⟩)) ?_
              refine seq_run1 (t_idxR tyE22 rfl rfl rfl h33) rfl ?_
              refine seq_run2 (t_storeR (wr (x32 + x24.Weight)) tyS3 rfl rfl rfl rfl h33 rfl rfl) rfl ?_
              refine ⟨rfl, ?_⟩
              refine awp_seq ?_
              refine awp_draw mixed hN rfl rfl ?_
              refine seq_run0 (stp_move (.row _ _) rfl) ?_
              refine seq_run0 (stp_move (.dat _) rfl) ?_
              obtain ⟨x34, h35, H⟩ := bnd H
              refine seq_run1 (t_idxR tyE22 rfl (by simp) rfl h35) rfl ?_
              refine seq_run1 (t_loadR1 tyS3 rfl (by simp) h35 rfl) rfl ?_
              refine seq_run0 (stp_move (.row _ _) rfl) ?_
              refine seq_run0 (stp_move (.dat _) rfl) ?_
              obtain ⟨x36, h37, H⟩ := bnd H
              refine seq_run1 (t_idxRI tyE22 rfl (by simp) rfl h37) rfl ?_
              refine seq_run1 (t_loadR1 tyS3 rfl (by simp) (at_some h37).2 rfl) rfl ?_
              refine seq_run0 (stp_gtr rfl rfl) ?_
              refine ⟨rfl, ?_⟩
              refine awp_cond _ rfl (fun h38 => ?_) (fun h38 => ?_)
              · replace H := ift h38 H
                refine awp_plain hN rfl ?_
                refine seq_run0 (stp_move (.dat _) rfl) ?_
                refine seq_run0 (stp_assign (.dat _) rfl) ?_
                exact ⟨((k21 : Int), (l20.set k21 (wr (x32 + x24.Weight)))), H, ⟨rfl, congrArg (Slot.row 1) (by simp), rfl, rfl, rfl, rfl, rfl, rfl, rfl, rfl, trivial⟩, ⟨rfl, rfl, trivial⟩⟩
              · replace H := iff_ h38 H
                refine awp_skip ?_
                exact ⟨(v19, (l20.set k21 (wr (x32 + x24.Weight)))), H, ⟨rfl, congrArg (Slot.row 1) (by simp), rfl, rfl, rfl, rfl, rfl, rfl, rfl, rfl, trivial⟩, ⟨rfl, rfl, trivial⟩⟩
            · rintro ⟨v39, v40⟩ H
              replace H : upstream_Round_J3 v39 v40 = some q22 := H
              unfold upstream_Round_J3 at H
              refine awp_plain hN rfl ?_
              refine seq_run0 (stp_add rfl rfl (by omega)) ?_
              refine seq_run0 (stp_move (.dat _) rfl) ?_
              exact ⟨_, backl H, ⟨rfl, rfl, rfl, rfl, rfl, rfl, rfl, rfl, rfl, rfl, trivial⟩, ⟨rfl, rfl, trivial⟩⟩
theorem k_slices_Equal_L_string_string_ (s1 : (List Bs)) (s2 : (List Bs)) (r : (Bool)) (H : m_slices_Equal_L_string_string_ s1 s2 = some r) : Fn Try.prog 47 [vlst (List.map C_string s1), vlst (List.map C_string s2)] (resOf [vbool r]) := by
  refine ⟨by kernel_rfl, pure_of (us := [vbool r]) Try.func47 rfl rfl rfl rfl fun X hN => ?_⟩
  unfold m_slices_Equal_L_string_string_ at H
  refine awp_seq ?_
  refine awp_plain hN rfl ?_
  refine seq_run0 (stp_assign (.dat _) rfl) ?_
  refine awp_seq ?_
  refine awp_seq ?_
  refine awp_plain hN rfl ?_
  refine seq_run0 (stp_move (.dat _) rfl) ?_
  refine seq_run0 (t_len tyU73 rfl) ?_
  refine seq_run0 (stp_move (.dat _) rfl) ?_
  refine seq_run0 (t_len tyU73 rfl) ?_
  refine seq_run0 (stp_neq rfl rfl) ?_
  refine awp_cond _ rfl (fun h3 => ?_) (fun h3 => ?_)
  · replace H := ift h3 H
    refine awp_seq ?_
    refine awp_plain hN rfl ?_
    refine seq_run0 (stp_assign (.dat _) rfl) ?_
    refine awp_ret ?_
    cases H
    exact ⟨trivial, .inl rfl, trivial⟩
  · replace H := iff_ h3 H
    refine awp_skip ?_
    refine awp_seq ?_
    refine awp_seq ?_
    refine awp_plain hN rfl ?_
    refine seq_run0 (stp_move (.dat _) rfl) ?_
    refine seq_run0 (t_len tyU73 rfl) ?_
    refine seq_run0 (stp_move (.dat _) rfl) ?_
    refine awp_block ?_
    obtain ⟨h6, H⟩ := gif H
    refine awp_forL (fun (k4 : Nat) (s : Unit) => [(0, .dat (vlst (List.map C_string s1))), (1, .dat (vlst (List.map C_string s2))), (12, .dat (vint (s1.length : Int))), (13, .dat (vint (k4 : Int)))]) (fun (k4 : Nat) (s : Unit) => []) () H ⟨rfl, rfl, rfl, rfl, trivial⟩ trivial (fun _ _ => rfl) ?_ ?_
    · rintro ⟨⟩ H
      replace H : slices_Equal_L_string_string__E1 = some r := H
      unfold slices_Equal_L_string_string__E1 at H
      refine awp_seq ?_
      refine awp_plain hN rfl ?_
      refine seq_run0 (stp_lss rfl rfl) ?_
      refine awp_seq ?_
      refine awp_cond _ rfl (fun h => (lt_t h).elim) (fun h => ?_)
      refine awp_exit ?_
      refine awp_seq ?_
      refine awp_plain hN rfl ?_
      refine seq_run0 (stp_assign (.dat _) rfl) ?_
      refine awp_ret ?_
      cases H
      exact ⟨trivial, .inl rfl, trivial⟩
    · rintro k4 x7 ⟨⟩ q5 h8 h9 H hq5
      replace H : slices_Equal_L_string_string__L1 s2 k4 x7 = some q5 := H
      unfold slices_Equal_L_string_string__L1 at H
      refine awp_seq ?_
      refine awp_plain hN rfl ?_
      refine seq_run0 (stp_lss rfl rfl) ?_
      refine awp_seq ?_
      refine awp_cond _ rfl (fun h => ?_) (fun h => (lt_f h8 h).elim)
      refine awp_skip ?_
      refine awp_seq ?_
      refine awp_block ?_
      refine awp_seq ?_
      refine awp_plain hN rfl ?_
      refine seq_run0 (stp_move (.dat _) rfl) ?_
      refine seq_run0 (stp_assign (.dat _) rfl) ?_
      refine awp_seq ?_
      refine awp_draw mixed hN rfl rfl ?_
      refine seq_run0 (stp_move (.dat _) rfl) ?_
      refine seq_run0 (stp_move (.dat _) rfl) ?_
      refine seq_run0 (t_idx tyE73 (fun _ => rfl) rfl rfl h9) ?_
      refine seq_run0 (stp_loadE1 tyS9 rfl (map_at h9) rfl) ?_
      refine seq_run0 (stp_move (.dat _) rfl) ?_
      refine seq_run0 (stp_move (.dat _) rfl) ?_
      obtain ⟨x10, h11, H⟩ := bnd H
      refine seq_run0 (t_idx tyE73 (fun _ => rfl) rfl rfl h11) ?_
      refine seq_run0 (stp_loadE1 tyS9 rfl (map_at h11) rfl) ?_
      refine seq_run0 (stp_sneq rfl rfl) ?_
      refine ⟨rfl, ?_⟩
      refine awp_cond _ rfl (fun h12 => ?_) (fun h12 => ?_)
      · replace H := ift h12 H
        refine awp_seq ?_
        refine awp_plain hN rfl ?_
        refine seq_run0 (stp_assign (.dat _) rfl) ?_
        refine awp_ret ?_
        replace H := retl H hq5
        cases H
        exact ⟨trivial, .inl rfl, trivial⟩
      · replace H := iff_ h12 H
        refine awp_skip ?_
        refine awp_plain hN rfl ?_
        refine seq_run0 (stp_add rfl rfl (by omega)) ?_
        refine seq_run0 (stp_move (.dat _) rfl) ?_
        exact ⟨_, backl H, ⟨rfl, rfl, rfl, rfl, trivial⟩, trivial⟩
theorem k_gatelaw2_balanced  (r : (Bool)) (H : m_gatelaw2_balanced  = some r) : Fn Try.prog 12 [] (resOf [vbool r]) := by
  refine ⟨by kernel_rfl, pure_of (us := [vbool r]) Try.func12 rfl rfl rfl rfl fun X hN => ?_⟩
  unfold m_gatelaw2_balanced at H
  refine awp_seq ?_
  refine awp_plain hN rfl ?_
  refine seq_run0 (stp_assign (.dat _) rfl) ?_
  refine awp_seq ?_
  refine awp_plain hN rfl ?_
  refine seq_run0 (stp_dat (u' := vagg (C_api_Instance (S_api_Instance.mk [97] 1))) (stp_build [(0, [vstr [97]]), (1, [vint 1])] tyZ114 tyP114 rfl ⟨rfl, .inl ⟨_, rfl, rfl, rfl⟩, rfl, rfl, .inl ⟨_, rfl, rfl, rfl⟩, rfl, trivial⟩) rfl) ?_
  refine seq_run0 (stp_dat (u' := vagg (C_api_Instance (S_api_Instance.mk [98] 2))) (stp_build [(0, [vstr [98]]), (1, [vint 2])] tyZ114 tyP114 rfl ⟨rfl, .inl ⟨_, rfl, rfl, rfl⟩, rfl, rfl, .inl ⟨_, rfl, rfl, rfl⟩, rfl, trivial⟩) rfl) ?_
  refine seq_run0 (stp_dat (u' := vlst (List.map C_api_Instance [(S_api_Instance.mk [97] 1), (S_api_Instance.mk [98] 2)])) (stp_lit [_, _] tyL48 ⟨rfl, .inr rfl, rfl, rfl, .inr rfl, rfl, trivial⟩ rfl rfl) rfl) ?_
  obtain ⟨r1, h2, H⟩ := bnd H
  refine seq_run0 (stp_call (k_upstream_Round ([(S_api_Instance.mk [97] 1), (S_api_Instance.mk [98] 2)]) 3 r1 h2) ⟨.inl rfl, .inl rfl, trivial⟩) ?_
  refine seq_run0 (stp_move (.dat _) rfl) ?_
  refine seq_run0 (stp_ext rfl rfl) ?_
  refine seq_run0 (stp_ext rfl rfl) ?_
  refine seq_run0 (stp_assign (.dat _) rfl) ?_
  refine seq_run0 (stp_assign (.dat _) rfl) ?_
  refine awp_joinE (ι := Bool) (fun i => [(0, .dat (vbool i))]) (fun i => []) (fun i => gatelaw2_balanced_J1 i = some r) (fun i => rfl) ?_ ?_
  · skip
    refine awp_plain hN rfl ?_
    refine seq_run0 (stp_move (.dat _) rfl) ?_
    refine seq_run0 (stp_eql rfl rfl) ?_
    refine seq_run0 (stp_move (.dat _) rfl) ?_
    refine seq_split (j := 2) rfl rfl (fun h3 => ?_) (fun h3 => ?_) rfl
    · have h4 := un1 h3
      replace H := ift h4 H
      refine seq_g0 rfl rfl h3 (stp_move (.dat _) rfl) ?_
      refine seq_g0 rfl rfl h3 (stp_dat (u' := vlst (List.map C_string [[98], [97], [98]])) (stp_lit [[_], [_], [_]] tyL73 ⟨rfl, .inl ⟨_, rfl, rfl, rfl⟩, rfl, rfl, .inl ⟨_, rfl, rfl, rfl⟩, rfl, rfl, .inl ⟨_, rfl, rfl, rfl⟩, rfl, trivial⟩ rfl rfl) rfl) ?_
      obtain ⟨r5, h6, H⟩ := bnd H
      refine seq_g0 rfl rfl h3 (stp_call (k_slices_Equal_L_string_string_ r1.1 ([[98], [97], [98]]) r5 h6) ⟨.inl rfl, .inl rfl, trivial⟩) ?_
      refine seq_run0 (stp_pick_t rfl (bTT h4) rfl) ?_
      refine seq_run0 (stp_assign (.dat _) rfl) ?_
      exact ⟨r5, H, ⟨rfl, trivial⟩, trivial⟩
    · have h7 := un2 h3
      replace H := iff_ h7 H
      refine seq_skip rfl rfl h3 ?_
      refine seq_skip rfl rfl h3 ?_
      refine seq_skip rfl rfl h3 ?_
      refine seq_run0 (stp_pick_f rfl (bFF h7) rfl) ?_
      refine seq_run0 (stp_assign (.dat _) rfl) ?_
      exact ⟨false, H, ⟨rfl, trivial⟩, trivial⟩
  · rintro v8 H
    replace H : gatelaw2_balanced_J1 v8 = some r := H
    unfold gatelaw2_balanced_J1 at H
    refine awp_ret ?_
    cases H
    exact ⟨trivial, .inl rfl, trivial⟩
theorem k_gatelaw2_DaysCheck (l1 : (List Int)) (r : (Bool)) (H : m_gatelaw2_DaysCheck l1 = some r) : Fn Try.prog 4 [vlst (List.map C_int l1)] (resOf [vbool r]) := by
  refine ⟨by kernel_rfl, pure_of (us := [vbool r]) Try.func4 rfl rfl rfl rfl fun X hN => ?_⟩
  unfold m_gatelaw2_DaysCheck at H
  refine awp_seq ?_
  refine awp_plain hN rfl ?_
  refine seq_run0 (stp_assign (.dat _) rfl) ?_
  refine awp_seq ?_
  refine awp_plain hN rfl ?_
  refine seq_run0 (stp_move (.dat _) rfl) ?_
  refine seq_run0 (stp_dat (u' := vagg (C_gatemake_Stream (S_gatemake_Stream.mk l1 0))) (stp_build [(0, [vlst (List.map C_int l1)])] tyZ25 tyP25 rfl ⟨rfl, .inl ⟨_, rfl, rfl, rfl⟩, rfl, trivial⟩) rfl) ?_
  refine seq_run2 (stp_boxA 1 rfl) rfl ?_
  refine seq_run0 (stp_assign (.ptr _ _) rfl) ?_
  refine awp_seq ?_
  refine awp_plain hN rfl ?_
  refine seq_run0 (stp_move (.ptr _ _) rfl) ?_
  obtain ⟨r2, h3, H⟩ := bnd H
  refine seq_run2 (stp_imp (k_gatemake_Stream_Setup (S_gatemake_Stream.mk l1 0) r2 h3) rfl trivial rfl) rfl ?_
  refine seq_run0 (stp_move (.ptr _ _) rfl) ?_
  obtain ⟨r4, h5, H⟩ := bnd H
  refine seq_run2 (stp_imp (k_gatemake_Stream_Calls r2.2 6 r4 h5) rfl ⟨.inl rfl, trivial⟩ rfl) rfl ?_
  refine seq_run2 (stp_alloc 2 tyZ54 rfl) rfl ?_
  refine seq_run2 (stp_storeW tyS54 rfl rfl rfl rfl) rfl ?_
  refine seq_run0 (stp_assign (.dat _) rfl) ?_
  refine awp_seq ?_
  refine awp_plain hN rfl ?_
  refine seq_run0 (stp_move (.ptr _ _) rfl) ?_
  refine seq_run0 (stp_fldP tyF54_0 rfl) ?_
  refine seq_run1 (stp_load1 tyS48 rfl rfl) rfl ?_
  obtain ⟨r6, h7, H⟩ := bnd H
  refine seq_run2 (stp_imp (k_gatemake_Stream_Phases r4.2 r2.1.Instances r6 h7) rfl ⟨.inl rfl, trivial⟩ rfl) rfl ?_
  refine seq_run0 (stp_assign (.dat _) rfl) ?_
  refine awp_seq ?_
  refine awp_plain hN rfl ?_
  refine seq_run0 (stp_fldP tyF54_0 rfl) ?_
  refine seq_run1 (stp_load1 tyS48 rfl rfl) rfl ?_
  obtain ⟨r8, h9, H⟩ := bnd H
  refine seq_run0 (stp_call (k_gateref2_InstancesFault r2.1.Instances r8 h9) ⟨.inl rfl, trivial⟩) ?_
  refine seq_run0 (stp_assign (.dat _) rfl) ?_
  refine awp_joinE (ι := Int) (fun i => [(4, .ptr 2 0), (5, .dat (vlst (List.map C_api_Call r4.1))), (6, .dat (vlst (List.map C_api_Phase r6.1))), (7, .dat (vint i))]) (fun i => [(2, .box none 54 [.dat (vlst (List.map C_api_Instance r2.1.Instances)), .dat (vint r2.1.Tries), .dat (vint r2.1.Timeout), .dat (vint r2.1.Wait), .dat (vint r2.1.MostWait), .dat (vint r2.1.Budget.Window), .dat (vint r2.1.Budget.Least), .dat (vint r2.1.Budget.Part), .dat (vint r2.1.Outliers.Fails), .dat (vint r2.1.Outliers.Base), .dat (vint r2.1.Outliers.Most), .dat (vint r2.1.Outliers.Share)])]) (fun i => gatelaw2_DaysCheck_J1 r2 r4 r6 i = some r) (fun i => rfl) ?_ ?_
  · skip
    refine awp_seq ?_
    refine awp_plain hN rfl ?_
    refine seq_run0 (stp_move (.dat _) rfl) ?_
    refine seq_run0 (stp_eql rfl rfl) ?_
    refine awp_cond _ rfl (fun h10 => ?_) (fun h10 => ?_)
    · replace H := ift h10 H
      refine awp_plain hN rfl ?_
      refine seq_run0 (stp_fldP tyF54_0 rfl) ?_
      refine seq_run1 (stp_load1 tyS48 rfl rfl) rfl ?_
      refine seq_run0 (stp_move (.dat _) rfl) ?_
      obtain ⟨r11, h12, H⟩ := bnd H
      refine seq_run0 (stp_call (k_gateref2_PhasesFault r2.1.Instances r6.1 r11 h12) ⟨.inl rfl, .inl rfl, trivial⟩) ?_
      refine seq_run0 (stp_assign (.dat _) rfl) ?_
      exact ⟨r11, H, ⟨rfl, rfl, rfl, rfl, trivial⟩, ⟨rfl, trivial⟩⟩
    · replace H := iff_ h10 H
      refine awp_skip ?_
      exact ⟨r8, H, ⟨rfl, rfl, rfl, rfl, trivial⟩, ⟨rfl, trivial⟩⟩
  · rintro one13 H
    replace H : gatelaw2_DaysCheck_J1 r2 r4 r6 one13 = some r := H
    unfold gatelaw2_DaysCheck_J1 at H
    refine awp_joinE (ι := Bool) (fun i => [(2, .dat (vbool i))]) (fun i => []) (fun i => gatelaw2_DaysCheck_J2 i = some r) (fun i => rfl) ?_ ?_
    · skip
      refine awp_draw mixed hN rfl rfl ?_
      refine seq_run1 (stp_loadA tyS54 rfl rfl rfl) rfl ?_
      obtain ⟨r14, h15, H⟩ := bnd H
      refine seq_run0 (stp_call (k_upstream_CheckSetup r2.1 r14 h15) ⟨.inl rfl, trivial⟩) ?_
      refine seq_run1 (stp_loadA tyS54 rfl rfl rfl) rfl ?_
      obtain ⟨r16, h17, H⟩ := bnd H
      refine seq_run0 (stp_call (k_gateref2_SetupFault r2.1 r16 h17) ⟨.inl rfl, trivial⟩) ?_
      refine seq_run0 (stp_eql rfl rfl) ?_
      refine seq_run0 (stp_move (.dat _) rfl) ?_
      refine seq_split (j := 5) rfl rfl (fun h18 => ?_) (fun h18 => ?_) rfl
      · have h19 := un1 h18
        replace H := ift h19 H
        refine seq_g0 rfl rfl h18 (stp_move (.dat _) rfl) ?_
        obtain ⟨r20, h21, H⟩ := bnd H
        refine seq_g0 rfl rfl h18 (stp_call (k_upstream_CheckCalls r4.1 r20 h21) ⟨.inl rfl, trivial⟩) ?_
        refine seq_g0 rfl rfl h18 (stp_move (.dat _) rfl) ?_
        obtain ⟨r22, h23, H⟩ := bnd H
        refine seq_g0 rfl rfl h18 (stp_call (k_gateref2_CallsFault r4.1 r22 h23) ⟨.inl rfl, trivial⟩) ?_
        refine seq_g0 rfl rfl h18 (stp_eql rfl rfl) ?_
        refine seq_run0 (stp_pick_t rfl (bTT h19) rfl) ?_
        refine seq_run0 (stp_move (.dat _) rfl) ?_
        refine seq_split (j := 12) rfl rfl (fun h24 => ?_) (fun h24 => ?_) rfl
        · have h25 := un1 h24
          replace H := ift h25 H
          refine seq_g0 rfl rfl h24 (stp_fldP tyF54_0 rfl) ?_
          refine seq_g1 rfl rfl h24 (stp_load1 tyS48 rfl rfl) rfl ?_
          refine seq_g0 rfl rfl h24 (stp_move (.dat _) rfl) ?_
          obtain ⟨r26, h27, H⟩ := bnd H
          refine seq_g0 rfl rfl h24 (stp_call (k_upstream_CheckPhases r2.1.Instances r6.1 r26 h27) ⟨.inl rfl, .inl rfl, trivial⟩) ?_
          refine seq_g0 rfl rfl h24 (stp_move (.dat _) rfl) ?_
          refine seq_g0 rfl rfl h24 (stp_eql rfl rfl) ?_
          refine seq_run0 (stp_pick_t rfl (bTT h25) rfl) ?_
          refine seq_run0 (stp_move (.dat _) rfl) ?_
          refine seq_split (j := 20) rfl rfl (fun h28 => ?_) (fun h28 => ?_) rfl
          · have h29 := un1 h28
            replace H := ift h29 H
            obtain ⟨r30, h31, H⟩ := bnd H
            refine seq_g0 rfl rfl h28 (stp_call (k_gatelaw2_balanced  r30 h31) trivial) ?_
            refine seq_run0 (stp_pick_t rfl (bTT h29) rfl) ?_
            refine seq_run0 (stp_assign (.dat _) rfl) ?_
            refine ⟨rfl, ?_⟩
            exact ⟨r30, H, ⟨rfl, trivial⟩, trivial⟩
          · have h32 := un2 h28
            replace H := iff_ h32 H
            refine seq_skip rfl rfl h28 ?_
            refine seq_run0 (stp_pick_f rfl (bFF h32) rfl) ?_
            refine seq_run0 (stp_assign (.dat _) rfl) ?_
            refine ⟨rfl, ?_⟩
            exact ⟨false, H, ⟨rfl, trivial⟩, trivial⟩
        · have h33 := un2 h24
          replace H := iff_ h33 H
          refine seq_skip rfl rfl h24 ?_
          refine seq_skip rfl rfl h24 ?_
          refine seq_skip rfl rfl h24 ?_
          refine seq_skip rfl rfl h24 ?_
          refine seq_skip rfl rfl h24 ?_
          refine seq_skip rfl rfl h24 ?_
          refine seq_run0 (stp_pick_f rfl (bFF h33) rfl) ?_
          refine seq_run0 (stp_move (.dat _) rfl) ?_
          refine seq_skip rfl rfl rfl ?_
          refine seq_run0 (stp_pick_f rfl rfl rfl) ?_
          refine seq_run0 (stp_assign (.dat _) rfl) ?_
          refine ⟨rfl, ?_⟩
          exact ⟨false, H, ⟨rfl, trivial⟩, trivial⟩
      · have h34 := un2 h18
        replace H := iff_ h34 H
        refine seq_skip rfl rfl h18 ?_
        refine seq_skip rfl rfl h18 ?_
        refine seq_skip rfl rfl h18 ?_
        refine seq_skip rfl rfl h18 ?_
        refine seq_skip rfl rfl h18 ?_
        refine seq_run0 (stp_pick_f rfl (bFF h34) rfl) ?_
        refine seq_run0 (stp_move (.dat _) rfl) ?_
        refine seq_skip rfl rfl rfl ?_
        refine seq_skip rfl rfl rfl ?_
        refine seq_skip rfl rfl rfl ?_
        refine seq_skip rfl rfl rfl ?_
        refine seq_skip rfl rfl rfl ?_
        refine seq_skip rfl rfl rfl ?_
        refine seq_run0 (stp_pick_f rfl rfl rfl) ?_
        refine seq_run0 (stp_move (.dat _) rfl) ?_
        refine seq_skip rfl rfl rfl ?_
        refine seq_run0 (stp_pick_f rfl rfl rfl) ?_
        refine seq_run0 (stp_assign (.dat _) rfl) ?_
        refine ⟨rfl, ?_⟩
        exact ⟨false, H, ⟨rfl, trivial⟩, trivial⟩
    · rintro v35 H
      replace H : gatelaw2_DaysCheck_J2 v35 = some r := H
      unfold gatelaw2_DaysCheck_J2 at H
      refine awp_ret ?_
      cases H
      exact ⟨trivial, .inl rfl, trivial⟩
theorem k_gatemake_Stream_Health (s1 : S_gatemake_Stream) (r : (S_api_Health × S_gatemake_Stream)) (H : m_gatemake_Stream_Health s1 = some r) : Imp Try.prog 34 25 (C_gatemake_Stream s1) [] (resOf [vagg (C_api_Health r.1)]) (C_gatemake_Stream r.2) := by
  refine imp_of (us := [vagg (C_api_Health r.1)]) (cs' := (C_gatemake_Stream r.2)) (by kernel_rfl) Try.func34 rfl rfl rfl rfl fun X bl hN => ?_
  unfold m_gatemake_Stream_Health at H
  refine awp_seq ?_
  refine awp_plain hN rfl ?_
  refine seq_run2 (stp_alloc 1 tyZ66 rfl) rfl ?_
  refine awp_seq ?_
  refine awp_plain hN rfl ?_
  refine seq_run0 (stp_move (.ptr _ _) rfl) ?_
  refine seq_run0 (stp_dat (u' := vlst (List.map C_int [1, 2, 3])) (stp_lit [[_], [_], [_]] tyL22 ⟨rfl, .inl ⟨_, rfl, rfl, rfl⟩, rfl, rfl, .inl ⟨_, rfl, rfl, rfl⟩, rfl, rfl, .inl ⟨_, rfl, rfl, rfl⟩, rfl, trivial⟩ rfl rfl) rfl) ?_
  obtain ⟨r2, h3, H⟩ := bnd H
  refine seq_run2 (stp_imp (k_gatemake_Stream_Pick s1 [1, 2, 3] r2 h3) rfl ⟨.inl rfl, trivial⟩ rfl) rfl ?_
  refine seq_run0 (stp_move (.ptr _ _) rfl) ?_
  refine seq_run0 (stp_dat (u' := vlst (List.map C_int [1, 2, 3])) (stp_lit [[_], [_], [_]] tyL22 ⟨rfl, .inl ⟨_, rfl, rfl, rfl⟩, rfl, rfl, .inl ⟨_, rfl, rfl, rfl⟩, rfl, rfl, .inl ⟨_, rfl, rfl, rfl⟩, rfl, trivial⟩ rfl rfl) rfl) ?_
  obtain ⟨r4, h5, H⟩ := bnd H
  refine seq_run2 (stp_imp (k_gatemake_Stream_Pick r2.2 [1, 2, 3] r4 h5) rfl ⟨.inl rfl, trivial⟩ rfl) rfl ?_
  refine seq_run0 (stp_dat (u' := vagg (C_api_Health (S_api_Health.mk r2.1 r4.1))) (stp_build [(0, [vint r2.1]), (1, [vint r4.1])] tyZ66 tyP66 rfl ⟨rfl, .inl ⟨_, rfl, rfl, rfl⟩, rfl, rfl, .inl ⟨_, rfl, rfl, rfl⟩, rfl, trivial⟩) rfl) ?_
  refine seq_run2 (stp_alloc 2 tyZ66 rfl) rfl ?_
  refine seq_run2 (stp_storeW tyS66 rfl rfl rfl rfl) rfl ?_
  refine awp_joinE (ι := (List Int) × Int × Int × Int) (fun i => [(2, .ptr 1 0), (3, .ptr 2 0)]) (fun i => [(0, .box (some bl) 25 [.dat (vlst (List.map C_int i.1)), .dat (vint i.2.1)]), (1, .box none 66 [.dat (vint 0), .dat (vint 0)]), (2, .box none 66 [.dat (vint i.2.2.1), .dat (vint i.2.2.2)])]) (fun i => gatemake_Stream_Health_J1 i.1 i.2.1 i.2.2.1 i.2.2.2 = some r) (fun i => rfl) ?_ ?_
  · skip
    refine awp_seq ?_
    refine awp_plain hN rfl ?_
    refine seq_run0 (stp_move (.ptr _ _) rfl) ?_
    obtain ⟨r6, h7, H⟩ := bnd H
    refine seq_run2 (stp_imp (k_gatemake_Stream_Flip r4.2 20 r6 h7) rfl ⟨.inl rfl, trivial⟩ rfl) rfl ?_
    refine awp_cond _ rfl (fun h8 => ?_) (fun h8 => ?_)
    · replace H := ift h8 H
      refine awp_plain hN rfl ?_
      refine seq_run0 (stp_move (.ptr _ _) rfl) ?_
      obtain ⟨r9, h10, H⟩ := bnd H
      refine seq_run2 (stp_imp (k_gatemake_Stream_Odd r6.2 1 100 r9 h10) rfl ⟨.inl rfl, .inl rfl, trivial⟩ rfl) rfl ?_
      refine seq_run0 (stp_move (.ptr _ _) rfl) ?_
      obtain ⟨r11, h12, H⟩ := bnd H
      refine seq_run2 (stp_imp (k_gatemake_Stream_Odd r9.2 1 100 r11 h12) rfl ⟨.inl rfl, .inl rfl, trivial⟩ rfl) rfl ?_
      refine seq_run0 (stp_fldP tyF66_0 rfl) ?_
      refine seq_run2 (stp_store1 tyS3 rfl rfl rfl rfl) rfl ?_
      refine seq_run0 (stp_fldP tyF66_1 rfl) ?_
      refine seq_run2 (stp_store1 tyS3 rfl rfl rfl rfl) rfl ?_
      exact ⟨(r11.2.L, r11.2.at_, r9.1, r11.1), H, ⟨rfl, rfl, trivial⟩, ⟨rfl, rfl, rfl, trivial⟩⟩
    · replace H := iff_ h8 H
      refine awp_skip ?_
      exact ⟨(r6.2.L, r6.2.at_, r2.1, r4.1), H, ⟨rfl, rfl, trivial⟩, ⟨rfl, rfl, rfl, trivial⟩⟩
  · rintro ⟨c13, c14, c15, c16⟩ H
    replace H : gatemake_Stream_Health_J1 c13 c14 c15 c16 = some r := H
    unfold gatemake_Stream_Health_J1 at H
    refine awp_seq ?_
    refine awp_plain hN rfl ?_
    refine seq_run1 (stp_loadA tyS66 rfl rfl rfl) rfl ?_
    refine seq_run2 (stp_storeW tyS66 rfl rfl rfl rfl) rfl ?_
    refine awp_ret ?_
    cases H
    exact ⟨trivial, ⟨⟨_, _, _, C_api_Health (S_api_Health.mk c15 c16), rfl, rfl, rfl, rfl, tyS66⟩, trivial⟩, rfl⟩
theorem k_gatemake_Stream_InstanceKey (s1 : S_gatemake_Stream) (r : (Bs × S_gatemake_Stream)) (H : m_gatemake_Stream_InstanceKey s1 = some r) : Imp Try.prog 99 25 (C_gatemake_Stream s1) [] (resOf [vstr r.1]) (C_gatemake_Stream r.2) := by
  refine imp_of (us := [vstr r.1]) (cs' := (C_gatemake_Stream r.2)) (by kernel_rfl) Try.func99 rfl rfl rfl rfl fun X bl hN => ?_
  unfold m_gatemake_Stream_InstanceKey at H
  refine awp_seq ?_
  refine awp_plain hN rfl ?_
  refine seq_run0 (stp_assign (.dat _) rfl) ?_
  refine awp_seq ?_
  refine awp_seq ?_
  refine awp_plain hN rfl ?_
  refine seq_run0 (stp_move (.ptr _ _) rfl) ?_
  obtain ⟨r2, h3, H⟩ := bnd H
  refine seq_run2 (stp_imp (k_gatemake_Stream_Flip s1 40 r2 h3) rfl ⟨.inl rfl, trivial⟩ rfl) rfl ?_
  refine awp_cond _ rfl (fun h4 => ?_) (fun h4 => ?_)
  · replace H := ift h4 H
    refine awp_seq ?_
    refine awp_plain hN rfl ?_
    refine seq_run0 (stp_move (.ptr _ _) rfl) ?_
    refine seq_run0 (stp_dat (u' := vlst (List.map C_string [[], [110, 111, 110, 101]])) (stp_lit [[_], [_]] tyL73 ⟨rfl, .inl ⟨_, rfl, rfl, rfl⟩, rfl, rfl, .inl ⟨_, rfl, rfl, rfl⟩, rfl, trivial⟩ rfl rfl) rfl) ?_
    obtain ⟨r5, h6, H⟩ := bnd H
    refine seq_run2 (stp_imp (k_gatemake_Stream_Some r2.2 ([[], [110, 111, 110, 101]]) r5 h6) rfl ⟨.inl rfl, trivial⟩ rfl) rfl ?_
    refine seq_run0 (stp_assign (.dat _) rfl) ?_
    refine awp_ret ?_
    cases H
    exact ⟨trivial, ⟨.inl rfl, trivial⟩, rfl⟩
  · replace H := iff_ h4 H
    refine awp_skip ?_
    refine awp_seq ?_
    refine awp_plain hN rfl ?_
    refine seq_run0 (stp_move (.ptr _ _) rfl) ?_
    refine seq_run0 (stp_dat (u' := vlst (List.map C_string [[105, 97], [105, 98], [105, 99], [105, 100]])) (stp_lit [[_], [_], [_], [_]] tyL73 ⟨rfl, .inl ⟨_, rfl, rfl, rfl⟩, rfl, rfl, .inl ⟨_, rfl, rfl, rfl⟩, rfl, rfl, .inl ⟨_, rfl, rfl, rfl⟩, rfl, rfl, .inl ⟨_, rfl, rfl, rfl⟩, rfl, trivial⟩ rfl rfl) rfl) ?_
    obtain ⟨r7, h8, H⟩ := bnd H
    refine seq_run2 (stp_imp (k_gatemake_Stream_Some r2.2 ([[105, 97], [105, 98], [105, 99], [105, 100]]) r7 h8) rfl ⟨.inl rfl, trivial⟩ rfl) rfl ?_
    refine seq_run0 (stp_assign (.dat _) rfl) ?_
    refine awp_ret ?_
    cases H
    exact ⟨trivial, ⟨.inl rfl, trivial⟩, rfl⟩
theorem k_gatemake_Stream_Probes (s1 : S_gatemake_Stream) (l2 : (List S_api_Instance)) (r : ((List S_api_Probe) × S_gatemake_Stream)) (H : m_gatemake_Stream_Probes s1 l2 = some r) : Imp Try.prog 35 25 (C_gatemake_Stream s1) [vlst (List.map C_api_Instance l2)] (resOf [vlst (List.map C_api_Probe r.1)]) (C_gatemake_Stream r.2) := by
  refine imp_of (us := [vlst (List.map C_api_Probe r.1)]) (cs' := (C_gatemake_Stream r.2)) (by kernel_rfl) Try.func35 rfl rfl rfl rfl fun X bl hN => ?_
  unfold m_gatemake_Stream_Probes at H
  refine awp_seq ?_
  refine awp_plain hN rfl ?_
  refine seq_run0 (stp_assign (.dat _) rfl) ?_
  refine awp_seq ?_
  refine awp_plain hN rfl ?_
  refine seq_run0 (stp_assign (.dat _) rfl) ?_
  refine awp_seq ?_
  refine awp_plain hN rfl ?_
  refine seq_run0 (stp_assign (.dat _) rfl) ?_
  refine awp_seq ?_
  refine awp_seq ?_
  refine awp_plain hN rfl ?_
  refine seq_run0 (stp_move (.ptr _ _) rfl) ?_
  obtain ⟨r3, h4, H⟩ := bnd H
  refine seq_run2 (stp_imp (k_gatemake_Stream_Range s1 0 16 r3 h4) rfl ⟨.inl rfl, .inl rfl, trivial⟩ rfl) rfl ?_
  refine seq_run0 (stp_move (.dat _) rfl) ?_
  refine awp_block ?_
  refine awp_nilrow 5 1 136 3 rfl rfl rfl ?_
  obtain ⟨h11, H⟩ := gif H
  refine awp_rng (fun (k9 : Nat) (s : Int × (List Int) × Int × (List S_api_Probe)) => [(0, .ptr 0 0), (1, .dat (vlst (List.map C_api_Instance l2))), (5, .row 1 s.2.2.2.length), (6, .dat (vint s.1)), (9, .dat (vint r3.1)), (10, .dat (vint (k9 : Int)))]) (fun (k9 : Nat) (s : Int × (List Int) × Int × (List S_api_Probe)) => [(0, .box (some bl) 25 [.dat (vlst (List.map C_int s.2.1)), .dat (vint s.2.2.1)]), (1, .row 136 3 (List.map C_api_Probe s.2.2.2))]) (0, r3.2.L, r3.2.at_, []) H ⟨rfl, rfl, congrArg (Slot.row 1) (by simp), rfl, rfl, rfl, trivial⟩ ⟨rfl, rfl, trivial⟩ (fun _ _ => rfl) ?_ ?_
  · rintro ⟨v5, c6, c7, l8⟩ H
    replace H : gatemake_Stream_Probes_E1 v5 c6 c7 l8 = some r := H
    unfold gatemake_Stream_Probes_E1 at H
    refine awp_seq ?_
    refine awp_plain hN rfl ?_
    refine seq_run0 (stp_lss rfl rfl) ?_
    refine awp_seq ?_
    refine awp_cond _ rfl (fun h => (lt_tI h).elim) (fun h => ?_)
    refine awp_exit ?_
    refine awp_seq ?_
    refine awp_plain hN rfl ?_
    refine seq_run0 (stp_move (.row _ _) rfl) ?_
    refine seq_run0 (stp_assign (.row _ _) rfl) ?_
    refine awp_ret ?_
    cases H
    exact ⟨trivial, ⟨t_slotv rfl rfl, trivial⟩, rfl⟩
  · rintro k9 ⟨v5, c6, c7, l8⟩ q10 h12 H hq10
    replace H : gatemake_Stream_Probes_L1 l2 k9 v5 c6 c7 l8 = some q10 := H
    unfold gatemake_Stream_Probes_L1 at H
    refine awp_seq ?_
    refine awp_plain hN rfl ?_
    refine seq_run0 (stp_lss rfl rfl) ?_
    refine awp_seq ?_
    refine awp_cond _ rfl (fun h => ?_) (fun h => (lt_fI h12 h).elim)
    refine awp_skip ?_
    refine awp_seq ?_
    refine awp_block ?_
    refine awp_seq ?_
    refine awp_plain hN rfl ?_
    refine seq_run0 (stp_move (.dat _) rfl) ?_
    refine seq_run0 (stp_move (.ptr _ _) rfl) ?_
    refine seq_run0 (stp_dat (u' := vlst (List.map C_int [0, 1, 5, 10])) (stp_lit [[_], [_], [_], [_]] tyL22 ⟨rfl, .inl ⟨_, rfl, rfl, rfl⟩, rfl, rfl, .inl ⟨_, rfl, rfl, rfl⟩, rfl, rfl, .inl ⟨_, rfl, rfl, rfl⟩, rfl, rfl, .inl ⟨_, rfl, rfl, rfl⟩, rfl, trivial⟩ rfl rfl) rfl) ?_
    obtain ⟨r13, h14, H⟩ := bnd H
    refine seq_run2 (stp_imp (k_gatemake_Stream_Pick (S_gatemake_Stream.mk c6 c7) [0, 1, 5, 10] r13 h14) rfl ⟨.inl rfl, trivial⟩ rfl) rfl ?_
    refine seq_run0 (stp_wrap _ rfl rfl (.inl ⟨rfl, rfl⟩)) ?_
    refine seq_run0 (stp_assign (.dat _) rfl) ?_
    refine awp_seq ?_
    refine awp_plain hN rfl ?_
    refine seq_run0 (stp_move (.dat _) rfl) ?_
    refine seq_run0 (stp_move (.ptr _ _) rfl) ?_
    obtain ⟨r15, h16, H⟩ := bnd H
    refine seq_run2 (stp_imp (k_gatemake_Stream_InstanceKey r13.2 r15 h16) rfl trivial rfl) rfl ?_
    refine seq_run0 (stp_move (.ptr _ _) rfl) ?_
    obtain ⟨r17, h18, H⟩ := bnd H
    refine seq_run2 (stp_imp (k_gatemake_Stream_Flip r15.2 2 r17 h18) rfl ⟨.inl rfl, trivial⟩ rfl) rfl ?_
    refine seq_run0 (stp_dat (u' := vagg (C_api_Probe (S_api_Probe.mk (wr (v5 + r13.1)) r15.1 r17.1))) (stp_build [(0, [vint (wr (v5 + r13.1))]), (1, [vstr r15.1]), (2, [vbool r17.1])] tyZ136 tyP136 rfl ⟨rfl, .inl ⟨_, rfl, rfl, rfl⟩, rfl, rfl, .inl ⟨_, rfl, rfl, rfl⟩, rfl, rfl, .inl ⟨_, rfl, rfl, rfl⟩, rfl, trivial⟩) rfl) ?_
    refine seq_run2 (stp_alloc 2 tyZ136 rfl) rfl ?_
    refine seq_run2 (stp_storeW tyS136 rfl rfl rfl rfl) rfl ?_
    refine awp_joinE (ι := (List Int) × Int × Bs) (fun i => [(0, .ptr 0 0), (1, .dat (vlst (List.map C_api_Instance l2))), (5, .row 1 l8.length), (6, .dat (vint (wr (v5 + r13.1)))), (7, .ptr 2 0), (9, .dat (vint r3.1)), (10, .dat (vint (k9 : Int)))]) (fun i => [(0, .box (some bl) 25 [.dat (vlst (List.map C_int i.1)), .dat (vint i.2.1)]), (1, .row 136 3 (List.map C_api_Probe l8)), (2, .box none 136 [.dat (vint (wr (v5 + r13.1))), .dat (vstr i.2.2), .dat (vbool r17.1)])]) (fun i => gatemake_Stream_Probes_J2 v5 l8 r13 r17 i.1 i.2.1 i.2.2 = some q10) (fun i => rfl) ?_ ?_
    · skip
      refine awp_joinE (ι := Bool × (List Int) × Int) (fun i => [(0, .ptr 0 0), (1, .dat (vlst (List.map C_api_Instance l2))), (5, .row 1 l8.length), (6, .dat (vint (wr (v5 + r13.1)))), (7, .ptr 2 0), (9, .dat (vint r3.1)), (10, .dat (vint (k9 : Int))), (30, .dat (vbool i.1))]) (fun i => [(0, .box (some bl) 25 [.dat (vlst (List.map C_int i.2.1)), .dat (vint i.2.2)]), (1, .row 136 3 (List.map C_api_Probe l8)), (2, .box none 136 [.dat (vint (wr (v5 + r13.1))), .dat (vstr r15.1), .dat (vbool r17.1)])]) (fun i => gatemake_Stream_Probes_J3 l2 v5 l8 r13 r15 r17 i.1 i.2.1 i.2.2 = some q10) (fun i => rfl) ?_ ?_
      · skip
        refine awp_plain hN rfl ?_
        refine seq_run0 (stp_move (.dat _) rfl) ?_
        refine seq_run0 (t_len tyU48 rfl) ?_
        refine seq_run0 (stp_gtr rfl rfl) ?_
        refine seq_run0 (stp_move (.dat _) rfl) ?_
        refine seq_split (j := 3) rfl rfl (fun h19 => ?_) (fun h19 => ?_) rfl
        · have h20 := un1 h19
          replace H := ift h20 H
          refine seq_g0 rfl rfl h19 (stp_move (.ptr _ _) rfl) ?_
          obtain ⟨r21, h22, H⟩ := bnd H
          refine seq_g2 rfl rfl h19 (stp_imp (k_gatemake_Stream_Flip r17.2 60 r21 h22) rfl ⟨.inl rfl, trivial⟩ rfl) rfl ?_
          refine seq_g0 rfl rfl h19 (stp_not rfl) ?_
          refine seq_run0 (stp_pick_t rfl (bTT h20) rfl) ?_
          exact ⟨(!r21.1, r21.2.L, r21.2.at_), H, ⟨rfl, rfl, rfl, rfl, rfl, rfl, rfl, rfl, trivial⟩, ⟨rfl, rfl, rfl, trivial⟩⟩
        · have h23 := un2 h19
          replace H := iff_ h23 H
          refine seq_skip rfl rfl h19 ?_
          refine seq_skip rfl rfl h19 ?_
          refine seq_skip rfl rfl h19 ?_
          refine seq_run0 (stp_pick_f rfl (bFF h23) rfl) ?_
          exact ⟨(false, r17.2.L, r17.2.at_), H, ⟨rfl, rfl, rfl, rfl, rfl, rfl, rfl, rfl, trivial⟩, ⟨rfl, rfl, rfl, trivial⟩⟩
      · rintro ⟨v24, c25, c26⟩ H
        replace H : gatemake_Stream_Probes_J3 l2 v5 l8 r13 r15 r17 v24 c25 c26 = some q10 := H
        unfold gatemake_Stream_Probes_J3 at H
        refine awp_cond _ rfl (fun h27 => ?_) (fun h27 => ?_)
        · replace H := ift h27 H
          refine awp_plain hN rfl ?_
          refine seq_run0 (stp_move (.dat _) rfl) ?_
          refine seq_run0 (stp_move (.ptr _ _) rfl) ?_
          refine seq_run0 (stp_move (.dat _) rfl) ?_
          refine seq_run0 (t_len tyU48 rfl) ?_
          obtain ⟨r28, h29, H⟩ := bnd H
          refine seq_run2 (stp_imp (k_gatemake_Stream_Next (S_gatemake_Stream.mk c25 c26) (l2.length : Int) r28 h29) rfl ⟨.inl rfl, trivial⟩ rfl) rfl ?_
          obtain ⟨x30, h31, H⟩ := bnd H
          refine seq_run0 (t_idxI tyE48 (fun _ => rfl) rfl rfl h31) ?_
          refine seq_run0 (stp_fldE tyF114_0 rfl) ?_
          refine seq_run0 (stp_loadE1 tyS9 rfl (map_at (at_some h31).2) rfl) ?_
          refine seq_run0 (stp_fldP tyF136_1 rfl) ?_
          refine seq_run2 (stp_store1 tyS9 rfl rfl rfl rfl) rfl ?_
          exact ⟨(r28.2.L, r28.2.at_, x30.Key), H, ⟨rfl, rfl, rfl, rfl, rfl, rfl, rfl, trivial⟩, ⟨rfl, rfl, rfl, trivial⟩⟩
        · replace H := iff_ h27 H
          refine awp_skip ?_
          exact ⟨(c25, c26, r15.1), H, ⟨rfl, rfl, rfl, rfl, rfl, rfl, rfl, trivial⟩, ⟨rfl, rfl, rfl, trivial⟩⟩
    · rintro ⟨c32, c33, c34⟩ H
      replace H : gatemake_Stream_Probes_J2 v5 l8 r13 r17 c32 c33 c34 = some q10 := H
      unfold gatemake_Stream_Probes_J2 at H
      refine awp_joinE (ι := (List Int) × Int × Int) (fun i => [(0, .ptr 0 0), (1, .dat (vlst (List.map C_api_Instance l2))), (5, .row 1 l8.length), (6, .dat (vint (wr (v5 + r13.1)))), (7, .ptr 2 0), (9, .dat (vint r3.1)), (10, .dat (vint (k9 : Int)))]) (fun i => [(0, .box (some bl) 25 [.dat (vlst (List.map C_int i.1)), .dat (vint i.2.1)]), (1, .row 136 3 (List.map C_api_Probe l8)), (2, .box none 136 [.dat (vint i.2.2), .dat (vstr c34), .dat (vbool r17.1)])]) (fun i => gatemake_Stream_Probes_J4 v5 l8 r13 r17 c34 i.1 i.2.1 i.2.2 = some q10) (fun i => rfl) ?_ ?_
      · skip
        refine awp_seq ?_
        refine awp_plain hN rfl ?_
        refine seq_run0 (stp_move (.ptr _ _) rfl) ?_
        obtain ⟨r35, h36, H⟩ := bnd H
        refine seq_run2 (stp_imp (k_gatemake_Stream_Flip (S_gatemake_Stream.mk c32 c33) 80 r35 h36) rfl ⟨.inl rfl, trivial⟩ rfl) rfl ?_
        refine awp_cond _ rfl (fun h37 => ?_) (fun h37 => ?_)
        · replace H := ift h37 H
          refine awp_plain hN rfl ?_
          refine seq_run0 (stp_move (.ptr _ _) rfl) ?_
          obtain ⟨r38, h39, H⟩ := bnd H
          refine seq_run2 (stp_imp (k_gatemake_Stream_Odd r35.2 0 50 r38 h39) rfl ⟨.inl rfl, .inl rfl, trivial⟩ rfl) rfl ?_
          refine seq_run0 (stp_fldP tyF136_0 rfl) ?_
          refine seq_run2 (stp_store1 tyS3 rfl rfl rfl rfl) rfl ?_
          exact ⟨(r38.2.L, r38.2.at_, r38.1), H, ⟨rfl, rfl, rfl, rfl, rfl, rfl, rfl, trivial⟩, ⟨rfl, rfl, rfl, trivial⟩⟩
        · replace H := iff_ h37 H
          refine awp_skip ?_
          exact ⟨(r35.2.L, r35.2.at_, (wr (v5 + r13.1))), H, ⟨rfl, rfl, rfl, rfl, rfl, rfl, rfl, trivial⟩, ⟨rfl, rfl, rfl, trivial⟩⟩
      · rintro ⟨c40, c41, c42⟩ H
        replace H : gatemake_Stream_Probes_J4 v5 l8 r13 r17 c34 c40 c41 c42 = some q10 := H
        unfold gatemake_Stream_Probes_J4 at H
        refine awp_plain hN rfl ?_
        refine seq_run0 (stp_move (.row _ _) rfl) ?_
        refine seq_run1 (stp_loadA tyS136 rfl rfl rfl) rfl ?_
        refine seq_run0 (stp_dat (u' := vlst (List.map C_api_Probe [(S_api_Probe.mk c42 c34 r17.1)])) (stp_lit [_] tyL68 ⟨rfl, .inr rfl, rfl, trivial⟩ rfl rfl) rfl) ?_
        obtain ⟨h43, H⟩ := gif H
        refine seq_run2 (t_app tyL68 (fun _ => rfl) rfl rfl rfl ⟨by simp, by simpa using h43⟩ rfl) rfl ?_
        refine seq_run0 (stp_assign (.row _ _) rfl) ?_
        refine awp_plain hN rfl ?_
        refine seq_run0 (stp_add rfl rfl (by omega)) ?_
        refine seq_run0 (stp_move (.dat _) rfl) ?_
        exact ⟨_, backl H, ⟨rfl, rfl, rfl, rfl, rfl, rfl, trivial⟩, ⟨rfl, rfl, trivial⟩⟩
theorem k_upstream_HealthFault (h1 : S_api_Health) (r : (Int)) (H : m_upstream_HealthFault h1 = some r) : Fn Try.prog 127 [vagg (C_api_Health h1)] (resOf [vint r]) := by
  refine ⟨by kernel_rfl, pure_of (us := [vint r]) Try.func127 rfl rfl rfl rfl fun X hN => ?_⟩
  unfold m_upstream_HealthFault at H
  refine awp_seq ?_
  refine awp_plain hN rfl ?_
  refine seq_run2 (stp_boxA 1 rfl) rfl ?_
  refine seq_run0 (stp_assign (.dat _) rfl) ?_
  refine awp_seq ?_
  refine awp_joinE (ι := Bool) (fun i => [(10, .dat (vbool i))]) (fun i => []) (fun i => upstream_HealthFault_J1 i = some r) (fun i => rfl) ?_ ?_
  · skip
    refine awp_plain hN rfl ?_
    refine seq_run0 (stp_fldP tyF66_0 rfl) ?_
    refine seq_run1 (stp_load1 tyS3 rfl rfl) rfl ?_
    obtain ⟨r2, h3, H⟩ := bnd H
    refine seq_run0 (stp_call (k_kit_Outside h1.Rise 1 100 r2 h3) ⟨.inl rfl, .inl rfl, .inl rfl, trivial⟩) ?_
    refine seq_run0 (stp_move (.dat _) rfl) ?_
    refine seq_split (j := 3) rfl rfl (fun h4 => ?_) (fun h4 => ?_) rfl
    · have h5 := un3 h4
      replace H := iff_ h5 H
      refine seq_g0 rfl rfl h4 (stp_fldP tyF66_1 rfl) ?_
      refine seq_g1 rfl rfl h4 (stp_load1 tyS3 rfl rfl) rfl ?_
      obtain ⟨r6, h7, H⟩ := bnd H
      refine seq_g0 rfl rfl h4 (stp_call (k_kit_Outside h1.Fall 1 100 r6 h7) ⟨.inl rfl, .inl rfl, .inl rfl, trivial⟩) ?_
      refine seq_run0 (stp_pick_f rfl (bFF h5) rfl) ?_
      exact ⟨r6, H, ⟨rfl, trivial⟩, trivial⟩
    · have h8 := un4 h4
      replace H := ift h8 H
      refine seq_skip rfl rfl h4 ?_
      refine seq_skip rfl rfl h4 ?_
      refine seq_skip rfl rfl h4 ?_
      refine seq_run0 (stp_pick_t rfl (bTT h8) rfl) ?_
      exact ⟨true, H, ⟨rfl, trivial⟩, trivial⟩
  · rintro v9 H
    replace H : upstream_HealthFault_J1 v9 = some r := H
    unfold upstream_HealthFault_J1 at H
    refine awp_cond _ rfl (fun h10 => ?_) (fun h10 => ?_)
    · replace H := ift h10 H
      refine awp_seq ?_
      refine awp_plain hN rfl ?_
      refine seq_run0 (stp_assign (.dat _) rfl) ?_
      refine awp_ret ?_
      cases H
      exact ⟨trivial, .inl rfl, trivial⟩
    · replace H := iff_ h10 H
      refine awp_skip ?_
      refine awp_seq ?_
      refine awp_plain hN rfl ?_
      refine seq_run0 (stp_assign (.dat _) rfl) ?_
      refine awp_ret ?_
      cases H
      exact ⟨trivial, .inl rfl, trivial⟩
theorem k_upstream_CheckProbes (l1 : (List S_api_Instance)) (p2 : (List S_api_Probe)) (r : (Int)) (H : m_upstream_CheckProbes l1 p2 = some r) : Fn Try.prog 39 [vlst (List.map C_api_Instance l1), vlst (List.map C_api_Probe p2)] (resOf [vint r]) := by
  refine ⟨by kernel_rfl, pure_of (us := [vint r]) Try.func39 rfl rfl rfl rfl fun X hN => ?_⟩
  unfold m_upstream_CheckProbes at H
  refine awp_seq ?_
  refine awp_plain hN rfl ?_
  refine seq_run0 (stp_assign (.dat _) rfl) ?_
  refine awp_seq ?_
  refine awp_seq ?_
  refine awp_plain hN rfl ?_
  refine seq_run0 (stp_move (.dat _) rfl) ?_
  obtain ⟨r3, h4, H⟩ := bnd H
  refine seq_run0 (stp_call (k_upstream_CheckInstances l1 r3 h4) ⟨.inl rfl, trivial⟩) ?_
  refine seq_run0 (stp_assign (.dat _) rfl) ?_
  refine awp_seq ?_
  refine awp_plain hN rfl ?_
  refine seq_run0 (stp_move (.dat _) rfl) ?_
  refine seq_run0 (stp_neq rfl rfl) ?_
  refine awp_cond _ rfl (fun h5 => ?_) (fun h5 => ?_)
  · replace H := ift h5 H
    refine awp_seq ?_
    refine awp_plain hN rfl ?_
    refine seq_run0 (stp_move (.dat _) rfl) ?_
    refine seq_run0 (stp_assign (.dat _) rfl) ?_
    refine awp_ret ?_
    cases H
    exact ⟨trivial, .inl rfl, trivial⟩
  · replace H := iff_ h5 H
    refine awp_skip ?_
    refine awp_seq ?_
    refine awp_seq ?_
    refine awp_plain hN rfl ?_
    refine seq_run0 (stp_move (.dat _) rfl) ?_
    refine seq_run0 (t_len tyU68 rfl) ?_
    refine seq_run0 (stp_gtr rfl rfl) ?_
    refine awp_cond _ rfl (fun h6 => ?_) (fun h6 => ?_)
    · replace H := ift h6 H
      refine awp_seq ?_
      refine awp_plain hN rfl ?_
      refine seq_run0 (stp_assign (.dat _) rfl) ?_
      refine awp_ret ?_
      cases H
      exact ⟨trivial, .inl rfl, trivial⟩
    · replace H := iff_ h6 H
      refine awp_skip ?_
      refine awp_seq ?_
      refine awp_seq ?_
      refine awp_plain hN rfl ?_
      refine seq_run0 (stp_move (.dat _) rfl) ?_
      refine seq_run0 (t_len tyU68 rfl) ?_
      refine seq_run0 (stp_move (.dat _) rfl) ?_
      refine awp_block ?_
      obtain ⟨h9, H⟩ := gif H
      refine awp_forL (fun (k7 : Nat) (s : Unit) => [(0, .dat (vlst (List.map C_api_Instance l1))), (1, .dat (vlst (List.map C_api_Probe p2))), (18, .dat (vlst (List.map C_api_Probe p2))), (19, .dat (vint (p2.length : Int))), (20, .dat (vint (k7 : Int)))]) (fun (k7 : Nat) (s : Unit) => []) () H ⟨rfl, rfl, rfl, rfl, rfl, trivial⟩ trivial (fun _ _ => rfl) ?_ ?_
      · rintro ⟨⟩ H
        replace H : upstream_CheckProbes_E1 = some r := H
        unfold upstream_CheckProbes_E1 at H
        refine awp_seq ?_
        refine awp_plain hN rfl ?_
        refine seq_run0 (stp_lss rfl rfl) ?_
        refine awp_seq ?_
        refine awp_cond _ rfl (fun h => (lt_t h).elim) (fun h => ?_)
        refine awp_exit ?_
        refine awp_seq ?_
        refine awp_plain hN rfl ?_
        refine seq_run0 (stp_assign (.dat _) rfl) ?_
        refine awp_ret ?_
        cases H
        exact ⟨trivial, .inl rfl, trivial⟩
      · rintro k7 x10 ⟨⟩ q8 h11 h12 H hq8
        replace H : upstream_CheckProbes_L1 l1 p2 k7 x10 = some q8 := H
        unfold upstream_CheckProbes_L1 at H
        refine awp_seq ?_
        refine awp_plain hN rfl ?_
        refine seq_run0 (stp_lss rfl rfl) ?_
        refine awp_seq ?_
        refine awp_cond _ rfl (fun h => ?_) (fun h => (lt_f h11 h).elim)
        refine awp_skip ?_
        refine awp_seq ?_
        refine awp_block ?_
        refine awp_seq ?_
        refine awp_plain hN rfl ?_
        refine seq_run0 (stp_move (.dat _) rfl) ?_
        refine seq_run0 (t_idx tyE68 (fun _ => rfl) rfl rfl h12) ?_
        refine seq_run0 (stp_loadEA tyS136 rfl (map_at h12) rfl) ?_
        refine seq_run2 (stp_alloc 1 tyZ136 rfl) rfl ?_
        refine seq_run0 (stp_assign (.dat _) rfl) ?_
        refine seq_run2 (stp_storeW tyS136 rfl rfl rfl rfl) rfl ?_
        refine awp_seq ?_
        refine awp_seq ?_
        refine awp_plain hN rfl ?_
        refine seq_run0 (stp_fldP tyF136_0 rfl) ?_
        refine seq_run1 (stp_load1 tyS3 rfl rfl) rfl ?_
        obtain ⟨r13, h14, H⟩ := bnd H
        refine seq_run0 (stp_call (k_kit_IsMoment x10.At r13 h14) ⟨.inl rfl, trivial⟩) ?_
        refine seq_run0 (stp_not rfl) ?_
        refine awp_cond _ rfl (fun h15 => ?_) (fun h15 => ?_)
        · replace H := ift h15 H
          refine awp_seq ?_
          refine awp_plain hN rfl ?_
          refine seq_run0 (stp_assign (.dat _) rfl) ?_
          refine awp_ret ?_
          replace H := retl H hq8
          cases H
          exact ⟨trivial, .inl rfl, trivial⟩
        · replace H := iff_ h15 H
          refine awp_skip ?_
          refine awp_seq ?_
          refine awp_seq ?_
          refine awp_plain hN rfl ?_
          refine seq_run0 (stp_move (.dat _) rfl) ?_
          refine seq_run0 (stp_fldP tyF136_1 rfl) ?_
          refine seq_run1 (stp_load1 tyS9 rfl rfl) rfl ?_
          obtain ⟨r16, h17, H⟩ := bnd H
          refine seq_run0 (stp_call (k_upstream_place l1 x10.Instance r16 h17) ⟨.inl rfl, .inl rfl, trivial⟩) ?_
          refine seq_run0 (stp_move (.dat _) rfl) ?_
          refine seq_run0 (stp_ext rfl rfl) ?_
          refine seq_run0 (stp_ext rfl rfl) ?_
          refine seq_run0 (stp_assign (.dat _) rfl) ?_
          refine seq_run0 (stp_assign (.dat _) rfl) ?_
          refine awp_seq ?_
          refine awp_plain hN rfl ?_
          refine seq_run0 (stp_move (.dat _) rfl) ?_
          refine seq_run0 (stp_not rfl) ?_
          refine awp_cond _ rfl (fun h18 => ?_) (fun h18 => ?_)
          · replace H := ift h18 H
            refine awp_seq ?_
            refine awp_plain hN rfl ?_
            refine seq_run0 (stp_assign (.dat _) rfl) ?_
            refine awp_ret ?_
            replace H := retl H hq8
            cases H
            exact ⟨trivial, .inl rfl, trivial⟩
          · replace H := iff_ h18 H
            refine awp_skip ?_
            refine awp_joinE (ι := Bool) (fun i => [(0, .dat (vlst (List.map C_api_Instance l1))), (1, .dat (vlst (List.map C_api_Probe p2))), (18, .dat (vlst (List.map C_api_Probe p2))), (19, .dat (vint (p2.length : Int))), (20, .dat (vint (k7 : Int))), (50, .dat (vbool i))]) (fun i => []) (fun i => upstream_CheckProbes_J2 i = some q8) (fun i => rfl) ?_ ?_
            · skip
              refine awp_draw mixed hN rfl rfl ?_
              refine seq_run0 (stp_move (.dat _) rfl) ?_
              refine seq_run0 (stp_gtr rfl rfl) ?_
              refine seq_run0 (stp_move (.dat _) rfl) ?_
              refine seq_split (j := 2) rfl rfl (fun h19 => ?_) (fun h19 => ?_) rfl
              · have h20 := un1 h19
                replace H := ift h20 H
                refine seq_g0 rfl rfl h19 (stp_fldP tyF136_0 rfl) ?_
                refine seq_g1 rfl rfl h19 (stp_load1 tyS3 rfl rfl) rfl ?_
                refine seq_g0 rfl rfl h19 (stp_move (.dat _) rfl) ?_
                refine seq_g0 rfl rfl h19 (stp_move (.dat _) rfl) ?_
                refine seq_g0 rfl rfl h19 (stp_sub rfl rfl (by omega)) ?_
                obtain ⟨x21, h22, H⟩ := bnd H
                refine seq_g0 rfl rfl h19 (t_idxI tyE68 (fun _ => rfl) rfl rfl h22) ?_
                refine seq_g0 rfl rfl h19 (stp_fldE tyF136_0 rfl) ?_
                refine seq_g0 rfl rfl h19 (stp_loadE1 tyS3 rfl (map_at (at_some h22).2) rfl) ?_
                refine seq_g0 rfl rfl h19 (stp_lss rfl rfl) ?_
                refine seq_run0 (stp_pick_t rfl (bTT h20) rfl) ?_
                refine ⟨rfl, ?_⟩
                exact ⟨decide (x10.At < x21.At), H, ⟨rfl, rfl, rfl, rfl, rfl, rfl, trivial⟩, trivial⟩
              · have h23 := un2 h19
                replace H := iff_ h23 H
                refine seq_skip rfl rfl h19 ?_
                refine seq_skip rfl rfl h19 ?_
                refine seq_skip rfl rfl h19 ?_
                refine seq_skip rfl rfl h19 ?_
                refine seq_skip rfl rfl h19 ?_
                refine seq_skip rfl rfl h19 ?_
                refine seq_skip rfl rfl h19 ?_
                refine seq_skip rfl rfl h19 ?_
                refine seq_skip rfl rfl h19 ?_
                refine seq_run0 (stp_pick_f rfl (bFF h23) rfl) ?_
                refine ⟨rfl, ?_⟩
                exact ⟨false, H, ⟨rfl, rfl, rfl, rfl, rfl, rfl, trivial⟩, trivial⟩
            · rintro v24 H
              replace H : upstream_CheckProbes_J2 v24 = some q8 := H
              unfold upstream_CheckProbes_J2 at H
              refine awp_cond _ rfl (fun h25 => ?_) (fun h25 => ?_)
              · replace H := ift h25 H
                refine awp_seq ?_
                refine awp_plain hN rfl ?_
                refine seq_run0 (stp_assign (.dat _) rfl) ?_
                refine awp_ret ?_
                replace H := retl H hq8
                cases H
                exact ⟨trivial, .inl rfl, trivial⟩
              · replace H := iff_ h25 H
                refine awp_skip ?_
                refine awp_plain hN rfl ?_
                refine seq_run0 (stp_add rfl rfl (by omega)) ?_
                refine seq_run0 (stp_move (.dat _) rfl) ?_
                exact ⟨_, backl H, ⟨rfl, rfl, rfl, rfl, rfl, trivial⟩, trivial⟩
theorem k_upstream_healthFault (l1 : (List S_api_Instance)) (h2 : S_api_Health) (p3 : (List S_api_Probe)) (r : (Int)) (H : m_upstream_healthFault l1 h2 p3 = some r) : Fn Try.prog 100 [vlst (List.map C_api_Instance l1), vagg (C_api_Health h2), vlst (List.map C_api_Probe p3)] (resOf [vint r]) := by
  refine ⟨by kernel_rfl, pure_of (us := [vint r]) Try.func100 rfl rfl rfl rfl fun X hN => ?_⟩
  unfold m_upstream_healthFault at H
  refine awp_seq ?_
  refine awp_plain hN rfl ?_
  refine seq_run2 (stp_boxA 1 rfl) rfl ?_
  refine seq_run0 (stp_assign (.dat _) rfl) ?_
  refine awp_seq ?_
  refine awp_seq ?_
  refine awp_plain hN rfl ?_
  refine seq_run0 (stp_move (.dat _) rfl) ?_
  obtain ⟨r4, h5, H⟩ := bnd H
  refine seq_run0 (stp_call (k_upstream_CheckInstances l1 r4 h5) ⟨.inl rfl, trivial⟩) ?_
  refine seq_run0 (stp_assign (.dat _) rfl) ?_
  refine awp_seq ?_
  refine awp_plain hN rfl ?_
  refine seq_run0 (stp_move (.dat _) rfl) ?_
  refine seq_run0 (stp_neq rfl rfl) ?_
  refine awp_cond _ rfl (fun h6 => ?_) (fun h6 => ?_)
  · replace H := ift h6 H
    refine awp_seq ?_
    refine awp_plain hN rfl ?_
    refine seq_run0 (stp_move (.dat _) rfl) ?_
    refine seq_run0 (stp_assign (.dat _) rfl) ?_
    refine awp_ret ?_
    cases H
    exact ⟨trivial, .inl rfl, trivial⟩
  · replace H := iff_ h6 H
    refine awp_skip ?_
    refine awp_seq ?_
    refine awp_seq ?_
    refine awp_plain hN rfl ?_
    refine seq_run1 (stp_loadA tyS66 rfl rfl rfl) rfl ?_
    obtain ⟨r7, h8, H⟩ := bnd H
    refine seq_run0 (stp_call (k_upstream_HealthFault h2 r7 h8) ⟨.inl rfl, trivial⟩) ?_
    refine seq_run0 (stp_assign (.dat _) rfl) ?_
    refine awp_seq ?_
    refine awp_plain hN rfl ?_
    refine seq_run0 (stp_move (.dat _) rfl) ?_
    refine seq_run0 (stp_neq rfl rfl) ?_
    refine awp_cond _ rfl (fun h9 => ?_) (fun h9 => ?_)
    · replace H := ift h9 H
      refine awp_seq ?_
      refine awp_plain hN rfl ?_
      refine seq_run0 (stp_move (.dat _) rfl) ?_
      refine seq_run0 (stp_assign (.dat _) rfl) ?_
      refine awp_ret ?_
      cases H
      exact ⟨trivial, .inl rfl, trivial⟩
    · replace H := iff_ h9 H
      refine awp_skip ?_
      refine awp_seq ?_
      refine awp_plain hN rfl ?_
      refine seq_run0 (stp_move (.dat _) rfl) ?_
      refine seq_run0 (stp_move (.dat _) rfl) ?_
      obtain ⟨r10, h11, H⟩ := bnd H
      refine seq_run0 (stp_call (k_upstream_CheckProbes l1 p3 r10 h11) ⟨.inl rfl, .inl rfl, trivial⟩) ?_
      refine seq_run0 (stp_assign (.dat _) rfl) ?_
      refine awp_ret ?_
      cases H
      exact ⟨trivial, .inl rfl, trivial⟩
theorem ke_upstream_health_probed (xs : List S_upstream_health) (kk : Nat) (s1 : S_upstream_health) (h2 : S_api_Health) (good3 : Bool) (r : (Bool × S_upstream_health)) (H : m_upstream_health_probed s1 h2 good3 = some r) (hx : xs[kk]? = some s1) : FnG Try.prog 128 [.rptr 0 xs.length 2 kk 0, .dat (vagg (C_api_Health h2)), .dat (vbool good3)] [(0, .rowA undef 142 2 (List.map C_upstream_health xs))] (.dat (resOf [vbool r.1])) [(0, .rowA undef 142 2 (List.map C_upstream_health (xs.set kk r.2)))] := by
  refine fnG_of (by kernel_rfl) Try.func128 rfl rfl rfl rfl fun X A hN => ?_
  unfold m_upstream_health_probed at H
  refine awp_seq ?_
  refine awp_plain hN rfl ?_
  refine seq_run2 (stp_boxA 1 rfl) rfl ?_
  refine seq_run0 (stp_assign (.dat _) rfl) ?_
  refine awp_seq ?_
  refine awp_seq ?_
  refine awp_plain hN rfl ?_
  refine seq_run0 (stp_move (.dat _) rfl) ?_
  refine seq_run0 (stp_move (.rptr _ _ _ _ _) rfl) ?_
  refine seq_run0 (stp_nilR rfl) ?_
  refine seq_run0 (stp_fldR tyF142_0 rfl) ?_
  refine seq_run1 (e_load1 tyS4 rfl rfl hx rfl) rfl ?_
  refine seq_run0 (stp_bneq tyU4 rfl rfl) ?_
  refine awp_cond _ rfl (fun h4 => ?_) (fun h4 => ?_)
  · replace H := ift h4 H
    refine awp_seq ?_
    refine awp_plain hN rfl ?_
    refine seq_run0 (stp_move (.rptr _ _ _ _ _) rfl) ?_
    refine seq_run0 (stp_nilR rfl) ?_
    refine seq_run0 (stp_fldR tyF142_1 rfl) ?_
    refine seq_run2 (e_store (S_upstream_health.mk s1.down_ 0) tyS3 rfl rfl rfl rfl hx rfl rfl) rfl ?_
    refine awp_seq ?_
    refine awp_plain hN rfl ?_
    refine seq_run0 (stp_assign (.dat _) rfl) ?_
    refine awp_ret ?_
    cases H
    exact ⟨trivial, [(6, .dat (vbool false))], ⟨rfl, trivial⟩, ⟨rfl, trivial⟩, rfl, .inl ⟨[vbool false], ⟨rfl, trivial⟩, rfl⟩⟩
  · replace H := iff_ h4 H
    refine awp_skip ?_
    refine awp_seq ?_
    refine awp_plain hN rfl ?_
    refine seq_run0 (stp_move (.rptr _ _ _ _ _) rfl) ?_
    refine seq_run0 (stp_nilR rfl) ?_
    refine seq_run0 (stp_fldR tyF142_1 rfl) ?_
    refine seq_run1 (e_load1 tyS3 rfl rfl hx rfl) rfl ?_
    refine seq_run0 (stp_wrap _ rfl rfl (.inl ⟨rfl, rfl⟩)) ?_
    refine seq_run0 (stp_nilR rfl) ?_
    refine seq_run0 (stp_fldR tyF142_1 rfl) ?_
    refine seq_run2 (e_store (S_upstream_health.mk s1.down_ (wr (s1.row_ + 1))) tyS3 rfl rfl rfl rfl hx rfl rfl) rfl ?_
    refine awp_seq ?_
    refine awp_plain hN rfl ?_
    refine seq_run0 (stp_fldP tyF66_1 rfl) ?_
    refine seq_run1 (stp_load1 tyS3 rfl rfl) rfl ?_
    refine seq_run0 (stp_assign (.dat _) rfl) ?_
    refine awp_joinE (ι := Int) (fun i => [(0, .rptr 0 xs.length 2 kk 0), (7, .dat (vint i))]) (fun i => [(0, .rowA (A.vl 0) 142 2 (List.map C_upstream_health (xs.set kk (S_upstream_health.mk s1.down_ (wr (s1.row_ + 1))))))]) (fun i => upstream_health_probed_J1 s1 i = some r) (fun i => rfl) ?_ ?_
    · skip
      refine awp_seq ?_
      refine awp_plain hN rfl ?_
      refine seq_run0 (stp_move (.rptr _ _ _ _ _) rfl) ?_
      refine seq_run0 (stp_nilR rfl) ?_
      refine seq_run0 (stp_fldR tyF142_0 rfl) ?_
      refine seq_run1 (e_load1 tyS4 rfl (by simp) (set_at hx) rfl) rfl ?_
      refine awp_cond _ rfl (fun h5 => ?_) (fun h5 => ?_)
      · replace H := ift h5 H
        refine awp_plain hN rfl ?_
        refine seq_run0 (stp_fldP tyF66_0 rfl) ?_
        refine seq_run1 (stp_load1 tyS3 rfl rfl) rfl ?_
        refine seq_run0 (stp_assign (.dat _) rfl) ?_
        exact ⟨h2.Rise, H, ⟨rfl, rfl, trivial⟩, ⟨rfl, trivial⟩⟩
      · replace H := iff_ h5 H
        refine awp_skip ?_
        exact ⟨h2.Fall, H, ⟨rfl, rfl, trivial⟩, ⟨rfl, trivial⟩⟩
    · rintro most6 H
      replace H : upstream_health_probed_J1 s1 most6 = some r := H
      unfold upstream_health_probed_J1 at H
      refine awp_seq ?_
      refine awp_seq ?_
      refine awp_plain hN rfl ?_
      refine seq_run0 (stp_move (.rptr _ _ _ _ _) rfl) ?_
      refine seq_run0 (stp_nilR rfl) ?_
      refine seq_run0 (stp_fldR tyF142_1 rfl) ?_
      refine seq_run1 (e_load1 tyS3 rfl (by simp) (set_at hx) rfl) rfl ?_
      refine seq_run0 (stp_move (.dat _) rfl) ?_
      refine seq_run0 (stp_lss rfl rfl) ?_
      refine awp_cond _ rfl (fun h7 => ?_) (fun h7 => ?_)
      · replace H := ift h7 H
        refine awp_seq ?_
        refine awp_plain hN rfl ?_
        refine seq_run0 (stp_assign (.dat _) rfl) ?_
        refine awp_ret ?_
        cases H
        exact ⟨trivial, [(6, .dat (vbool false))], ⟨rfl, trivial⟩, ⟨rfl, trivial⟩, rfl, .inl ⟨[vbool false], ⟨rfl, trivial⟩, rfl⟩⟩
      · replace H := iff_ h7 H
        refine awp_skip ?_
        refine awp_seq ?_
        refine awp_plain hN rfl ?_
        refine seq_run0 (stp_move (.rptr _ _ _ _ _) rfl) ?_
        refine seq_run0 (stp_move (.rptr _ _ _ _ _) rfl) ?_
        refine seq_run0 (stp_move (.rptr _ _ _ _ _) rfl) ?_
        refine seq_run0 (stp_nilR rfl) ?_
        refine seq_run0 (stp_fldR tyF142_0 rfl) ?_
        refine seq_run1 (e_load1 tyS4 rfl (by simp) (set_at hx) rfl) rfl ?_
        refine seq_run0 (stp_not rfl) ?_
        refine seq_run0 (stp_nilR rfl) ?_
        refine seq_run0 (stp_fldR tyF142_0 rfl) ?_
        refine seq_run2 (e_store2 (S_upstream_health.mk (!s1.down_) (wr (s1.row_ + 1))) tyS4 rfl rfl rfl rfl hx rfl rfl) rfl ?_
        refine seq_run0 (stp_nilR rfl) ?_
        refine seq_run0 (stp_fldR tyF142_1 rfl) ?_
        refine seq_run2 (e_store2 (S_upstream_health.mk (!s1.down_) 0) tyS3 rfl rfl rfl rfl hx rfl rfl) rfl ?_
        refine awp_seq ?_
        refine awp_plain hN rfl ?_
        refine seq_run0 (stp_assign (.dat _) rfl) ?_
        refine awp_ret ?_
        cases H
        exact ⟨trivial, [(6, .dat (vbool true))], ⟨rfl, trivial⟩, ⟨rfl, trivial⟩, rfl, .inl ⟨[vbool true], ⟨rfl, trivial⟩, rfl⟩⟩
theorem k_upstream_turns (l1 : (List S_api_Instance)) (h2 : S_api_Health) (p3 : (List S_api_Probe)) (v4 : Int) (r : ((List S_api_Turn) × (List S_upstream_health))) (H : m_upstream_turns l1 h2 p3 v4 = some r) : Fn Try.prog 101 [vlst (List.map C_api_Instance l1), vagg (C_api_Health h2), vlst (List.map C_api_Probe p3), vint v4] (resOf [vlst (List.map C_api_Turn r.1), vlst (List.map C_upstream_health r.2)]) := by
  refine ⟨by kernel_rfl, pure_of (us := [vlst (List.map C_api_Turn r.1), vlst (List.map C_upstream_health r.2)]) Try.func101 rfl rfl rfl rfl fun X hN => ?_⟩
  unfold m_upstream_turns at H
  refine awp_seq ?_
  refine awp_plain hN rfl ?_
  refine seq_run2 (stp_boxA 1 rfl) rfl ?_
  refine seq_run0 (stp_assign (.dat _) rfl) ?_
  refine seq_run0 (stp_assign (.dat _) rfl) ?_
  refine awp_seq ?_
  refine awp_plain hN rfl ?_
  refine seq_run0 (stp_move (.dat _) rfl) ?_
  refine seq_run0 (t_len tyU48 rfl) ?_
  obtain ⟨h5, H⟩ := gif H
  refine seq_run2 (t_make (C := C_upstream_health) 2 (S_upstream_health.mk false 0) tyL138 tyZ142 rfl rfl rfl rfl h5 rfl) rfl ?_
  refine seq_run0 (stp_assign (.row _ _) rfl) ?_
  refine awp_seq ?_
  refine awp_plain hN rfl ?_
  refine seq_run0 (stp_assign (.dat _) rfl) ?_
  refine awp_joinE (ι := (List S_upstream_health) × (List S_api_Turn)) (fun i => [(10, .row 2 i.1.length), (11, .row 3 i.2.length)]) (fun i => [(2, .row 142 2 (List.map C_upstream_health i.1)), (3, .row 84 3 (List.map C_api_Turn i.2))]) (fun i => upstream_turns_J1 i.1 i.2 = some r) (fun i => rfl) ?_ ?_
  · skip
    refine awp_seq ?_
    refine awp_plain hN rfl ?_
    refine seq_run0 (stp_move (.dat _) rfl) ?_
    refine seq_run0 (t_len tyU68 rfl) ?_
    refine seq_run0 (stp_move (.dat _) rfl) ?_
    refine awp_block ?_
    refine awp_nilrow 11 3 84 3 rfl rfl rfl ?_
    obtain ⟨h10, H⟩ := gif H
    refine awp_forL (fun (k8 : Nat) (s : (List S_upstream_health) × (List S_api_Turn)) => [(0, .dat (vlst (List.map C_api_Instance l1))), (3, .dat (vint v4)), (5, .ptr 1 0), (10, .row 2 s.1.length), (11, .row 3 s.2.length), (19, .dat (vlst (List.map C_api_Probe p3))), (20, .dat (vint (p3.length : Int))), (21, .dat (vint (k8 : Int)))]) (fun (k8 : Nat) (s : (List S_upstream_health) × (List S_api_Turn)) => [(1, .box none 66 [.dat (vint h2.Rise), .dat (vint h2.Fall)]), (2, .row 142 2 (List.map C_upstream_health s.1)), (3, .row 84 3 (List.map C_api_Turn s.2))]) ((List.replicate l1.length (S_upstream_health.mk false 0)), []) H ⟨rfl, rfl, rfl, congrArg (Slot.row 2) (by simp), congrArg (Slot.row 3) (by simp), rfl, rfl, rfl, trivial⟩ ⟨rfl, rfl, rfl, trivial⟩ (fun _ _ => rfl) ?_ ?_
    · rintro ⟨l6, l7⟩ H
      replace H : upstream_turns_E2 l6 l7 = some r := H
      unfold upstream_turns_E2 at H
      refine awp_seq ?_
      refine awp_plain hN rfl ?_
      refine seq_run0 (stp_lss rfl rfl) ?_
      refine awp_seq ?_
      refine awp_cond _ rfl (fun h => (lt_t h).elim) (fun h => ?_)
      refine awp_exit ?_
      exact ⟨(l6, l7), H, ⟨rfl, rfl, trivial⟩, ⟨rfl, rfl, trivial⟩⟩
    · rintro k8 x11 ⟨l6, l7⟩ q9 h12 h13 H hq9
      replace H : upstream_turns_L2 l1 h2 v4 k8 x11 l6 l7 = some q9 := H
      unfold upstream_turns_L2 at H
      refine awp_seq ?_
      refine awp_plain hN rfl ?_
      refine seq_run0 (stp_lss rfl rfl) ?_
      refine awp_seq ?_
      refine awp_cond _ rfl (fun h => ?_) (fun h => (lt_f h12 h).elim)
      refine awp_skip ?_
      refine awp_joinE (ι := (List S_upstream_health) × (List S_api_Turn)) (fun i => [(0, .dat (vlst (List.map C_api_Instance l1))), (3, .dat (vint v4)), (5, .ptr 1 0), (10, .row 2 i.1.length), (11, .row 3 i.2.length), (19, .dat (vlst (List.map C_api_Probe p3))), (20, .dat (vint (p3.length : Int))), (21, .dat (vint (k8 : Int)))]) (fun i => [(1, .box none 66 [.dat (vint h2.Rise), .dat (vint h2.Fall)]), (2, .row 142 2 (List.map C_upstream_health i.1)), (3, .row 84 3 (List.map C_api_Turn i.2))]) (fun i => upstream_turns_J3 i.1 i.2 = some q9) (fun i => rfl) ?_ ?_
      · skip
        refine awp_block ?_
        refine awp_seq ?_
        refine awp_plain hN rfl ?_
        refine seq_run0 (t_idx tyE68 (fun _ => rfl) rfl rfl h13) ?_
        refine seq_run0 (stp_loadEA tyS136 rfl (map_at h13) rfl) ?_
        refine seq_run2 (stp_alloc 4 tyZ136 rfl) rfl ?_
        refine seq_run2 (stp_storeW tyS136 rfl rfl rfl rfl) rfl ?_
        refine awp_seq ?_
        refine awp_seq ?_
        refine awp_plain hN rfl ?_
        refine seq_run0 (stp_fldP tyF136_0 rfl) ?_
        refine seq_run1 (stp_load1 tyS3 rfl rfl) rfl ?_
        refine seq_run0 (stp_move (.dat _) rfl) ?_
        refine seq_run0 (stp_gtr rfl rfl) ?_
        refine awp_cond _ rfl (fun h14 => ?_) (fun h14 => ?_)
        · replace H := ift h14 H
          refine awp_exit ?_
          replace H := outl H hq9
          exact ⟨(l6, l7), H, ⟨rfl, rfl, trivial⟩, ⟨rfl, rfl, trivial⟩⟩
        · replace H := iff_ h14 H
          refine awp_skip ?_
          refine awp_seq ?_
          refine awp_plain hN rfl ?_
          refine seq_run0 (stp_move (.dat _) rfl) ?_
          refine seq_run0 (stp_fldP tyF136_1 rfl) ?_
          refine seq_run1 (stp_load1 tyS9 rfl rfl) rfl ?_
          obtain ⟨r15, h16, H⟩ := bnd H
          refine seq_run0 (stp_call (k_upstream_place l1 x11.Instance r15 h16) ⟨.inl rfl, .inl rfl, trivial⟩) ?_
          refine seq_run0 (stp_move (.dat _) rfl) ?_
          refine seq_run0 (stp_ext rfl rfl) ?_
          refine seq_run0 (stp_ext rfl rfl) ?_
          refine seq_run0 (stp_assign (.dat _) rfl) ?_
          refine seq_run0 (stp_assign (.dat _) rfl) ?_
          refine awp_seq ?_
          refine awp_draw mixed hN rfl rfl ?_
          refine seq_run0 (stp_move (.row _ _) rfl) ?_
          refine seq_run0 (stp_move (.dat _) rfl) ?_
          obtain ⟨x17, h18, H⟩ := bnd H
          refine seq_run1 (t_idxRI tyE138 rfl rfl rfl h18) rfl ?_
          refine seq_run1 (stp_loadA tyS66 rfl rfl rfl) rfl ?_
          refine seq_run0 (stp_fldP tyF136_2 rfl) ?_
          refine seq_run1 (stp_load1 tyS4 rfl rfl) rfl ?_
          obtain ⟨r19, h20, H⟩ := bnd H
          refine seq_callG (rn [(0, 2)]) [(0, _, _, some _)] [] (ke_upstream_health_probed l6 r15.1.toNat x17 h2 x11.Good r19 h20 (at_some h18).2) ⟨rfl, trivial⟩ ⟨.inl (.inl rfl), .inl (.inl rfl), .inl (.inl rfl), trivial⟩ ⟨⟨⟨rfl, rfl, rfl⟩, by simp [stayP]⟩, trivial⟩ rfl ?_
          refine ⟨rfl, ?_⟩
          refine awp_cond _ rfl (fun h21 => ?_) (fun h21 => ?_)
          · replace H := ift h21 H
            refine awp_draw mixed hN rfl rfl ?_
            refine seq_run0 (stp_move (.row _ _) rfl) ?_
            refine seq_run0 (stp_fldP tyF136_0 rfl) ?_
            refine seq_run1 (stp_load1 tyS3 rfl rfl) rfl ?_
            refine seq_run0 (stp_fldP tyF136_1 rfl) ?_
            refine seq_run1 (stp_load1 tyS9 rfl rfl) rfl ?_
            refine seq_run0 (stp_move (.row _ _) rfl) ?_
            refine seq_run0 (stp_move (.dat _) rfl) ?_
            obtain ⟨x22, h23, H⟩ := bnd H
            refine seq_run1 (t_idxRI tyE138 rfl (by simp) rfl h23) rfl ?_
            refine seq_run0 (stp_fldR tyF142_0 rfl) ?_
            refine seq_run1 (t_loadR1 tyS4 rfl (by simp) (at_some h23).2 rfl) rfl ?_
            refine seq_run0 (stp_not rfl) ?_
            refine seq_run0 (stp_dat (u' := vagg (C_api_Turn (S_api_Turn.mk x11.At x11.Instance (!x22.down_)))) (stp_build [(0, [vint x11.At]), (1, [vstr x11.Instance]), (2, [vbool (!x22.down_)])] tyZ84 tyP84 rfl ⟨rfl, .inl ⟨_, rfl, rfl, rfl⟩, rfl, rfl, .inl ⟨_, rfl, rfl, rfl⟩, rfl, rfl, .inl ⟨_, rfl, rfl, rfl⟩, rfl, trivial⟩) rfl) ?_
            refine seq_run0 (stp_dat (u' := vlst (List.map C_api_Turn [(S_api_Turn.mk x11.At x11.Instance (!x22.down_))])) (stp_lit [_] tyL70 ⟨rfl, .inr rfl, rfl, trivial⟩ rfl rfl) rfl) ?_
            obtain ⟨h24, H⟩ := gif H
            refine seq_run2 (t_app tyL70 (fun _ => rfl) rfl rfl rfl ⟨by simp, by simpa using h24⟩ rfl) rfl ?_
            refine seq_run0 (stp_assign (.row _ _) rfl) ?_
            refine ⟨rfl, ?_⟩
            exact ⟨((l6.set r15.1.toNat r19.2), (l7 ++ [(S_api_Turn.mk x11.At x11.Instance (!x22.down_))])), H, ⟨rfl, rfl, rfl, congrArg (Slot.row 2) (by simp), rfl, rfl, rfl, rfl, trivial⟩, ⟨rfl, rfl, rfl, trivial⟩⟩
          · replace H := iff_ h21 H
            refine awp_skip ?_
            exact ⟨((l6.set r15.1.toNat r19.2), l7), H, ⟨rfl, rfl, rfl, congrArg (Slot.row 2) (by simp), rfl, rfl, rfl, rfl, trivial⟩, ⟨rfl, rfl, rfl, trivial⟩⟩
      · rintro ⟨now25, out26⟩ H
        replace H : upstream_turns_J3 now25 out26 = some q9 := H
        unfold upstream_turns_J3 at H
        refine awp_plain hN rfl ?_
        refine seq_run0 (stp_add rfl rfl (by omega)) ?_
        refine seq_run0 (stp_move (.dat _) rfl) ?_
        exact ⟨_, backl H, ⟨rfl, rfl, rfl, rfl, rfl, rfl, rfl, rfl, trivial⟩, ⟨rfl, rfl, rfl, trivial⟩⟩
  · rintro ⟨now27, out28⟩ H
    replace H : upstream_turns_J1 now27 out28 = some r := H
    unfold upstream_turns_J1 at H
    refine awp_seq ?_
    refine awp_plain hN rfl ?_
    refine seq_run0 (stp_move (.row _ _) rfl) ?_
    refine seq_run0 (stp_move (.row _ _) rfl) ?_
    refine seq_run0 (stp_assign (.row _ _) rfl) ?_
    refine seq_run0 (stp_assign (.row _ _) rfl) ?_
    refine awp_ret ?_
    cases H
    exact ⟨trivial, t_slotv rfl rfl, t_slotv rfl rfl, trivial⟩
theorem k_upstream_Turns (l1 : (List S_api_Instance)) (h2 : S_api_Health) (p3 : (List S_api_Probe)) (r : ((List S_api_Turn) × Int)) (H : m_upstream_Turns l1 h2 p3 = some r) : Fn Try.prog 36 [vlst (List.map C_api_Instance l1), vagg (C_api_Health h2), vlst (List.map C_api_Probe p3)] (resOf [vlst (List.map C_api_Turn r.1), vint r.2]) := by
  refine ⟨by kernel_rfl, pure_of (us := [vlst (List.map C_api_Turn r.1), vint r.2]) Try.func36 rfl rfl rfl rfl fun X hN => ?_⟩
  unfold m_upstream_Turns at H
  refine awp_seq ?_
  refine awp_plain hN rfl ?_
  refine seq_run2 (stp_boxA 1 rfl) rfl ?_
  refine seq_run0 (stp_assign (.dat _) rfl) ?_
  refine seq_run0 (stp_assign (.dat _) rfl) ?_
  refine awp_seq ?_
  refine awp_seq ?_
  refine awp_plain hN rfl ?_
  refine seq_run0 (stp_move (.dat _) rfl) ?_
  refine seq_run1 (stp_loadA tyS66 rfl rfl rfl) rfl ?_
  refine seq_run0 (stp_move (.dat _) rfl) ?_
  obtain ⟨r4, h5, H⟩ := bnd H
  refine seq_run0 (stp_call (k_upstream_healthFault l1 h2 p3 r4 h5) ⟨.inl rfl, .inl rfl, .inl rfl, trivial⟩) ?_
  refine seq_run0 (stp_assign (.dat _) rfl) ?_
  refine awp_seq ?_
  refine awp_plain hN rfl ?_
  refine seq_run0 (stp_move (.dat _) rfl) ?_
  refine seq_run0 (stp_neq rfl rfl) ?_
  refine awp_cond _ rfl (fun h6 => ?_) (fun h6 => ?_)
  · replace H := ift h6 H
    refine awp_seq ?_
    refine awp_plain hN rfl ?_
    refine seq_run0 (stp_move (.dat _) rfl) ?_
    refine seq_run0 (stp_assign (.dat _) rfl) ?_
    refine seq_run0 (stp_assign (.dat _) rfl) ?_
    refine awp_ret ?_
    cases H
    exact ⟨trivial, .inr ⟨rfl, rfl⟩, .inl rfl, trivial⟩
  · replace H := iff_ h6 H
    refine awp_skip ?_
    refine awp_seq ?_
    refine awp_plain hN rfl ?_
    refine seq_run0 (stp_move (.dat _) rfl) ?_
    refine seq_run1 (stp_loadA tyS66 rfl rfl rfl) rfl ?_
    refine seq_run0 (stp_move (.dat _) rfl) ?_
    obtain ⟨r7, h8, H⟩ := bnd H
    refine seq_run0 (stp_call (k_upstream_turns l1 h2 p3 345686400000 r7 h8) ⟨.inl rfl, .inl rfl, .inl rfl, .inl rfl, trivial⟩) ?_
    refine seq_run0 (stp_move (.dat _) rfl) ?_
    refine seq_run0 (stp_ext rfl rfl) ?_
    refine seq_run0 (stp_ext rfl rfl) ?_
    refine seq_run0 (stp_assign (.dat _) rfl) ?_
    refine seq_run0 (stp_assign (.dat _) rfl) ?_
    refine awp_seq ?_
    refine awp_plain hN rfl ?_
    refine seq_run0 (stp_move (.dat _) rfl) ?_
    refine seq_run0 (stp_assign (.dat _) rfl) ?_
    refine seq_run0 (stp_assign (.dat _) rfl) ?_
    refine awp_ret ?_
    cases H
    exact ⟨trivial, .inl rfl, .inl rfl, trivial⟩
end Go.Proofs.Ytmcegaabopcmfaa
