/- Walks along the models. Printed by a program. -/
import Derived.Test.YtpeeeanmfmhlgaaGreatDoorYdw1
namespace Go.Proofs.YtpeeeanmfmhlgaaGreatDoor
open Go.RowKit
set_option linter.unusedVariables false
set_option maxRecDepth 20000
theorem k_token_CheckClaims (v1 : S_api_Claims) (r : (Int)) (H : m_token_CheckClaims v1 = some r) : Fn Tryz.prog 47 [vagg (C_api_Claims v1)] (resOf [vint r]) := by
  refine ⟨by kernel_rfl, pure_of (us := [vint r]) Tryz.func47 rfl rfl rfl rfl fun X hN => ?_⟩
  unfold m_token_CheckClaims at H
  refine awp_seq ?_
  refine awp_plain hN rfl ?_
  refine seq_run2 (stp_boxA 1 rfl) rfl ?_
  refine seq_run0 (stp_assign (.dat _) rfl) ?_
  refine awp_seq ?_
  refine awp_joinE (ι := Bool) (fun i => [(1, .ptr 1 0), (31, .dat (vbool i))]) (fun i => [(1, .box none 42 [.dat (vstr v1.Id), .dat (vstr v1.Subject), .dat (vstr v1.Issuer), .dat (vstr v1.Parent), .dat (vlst (List.map C_string v1.Audience)), .dat (vlst (List.map C_string v1.Scopes)), .dat (vint v1.From), .dat (vint v1.To)])]) (fun i => token_CheckClaims_J1 v1 i = some r) (fun i => rfl) ?_ ?_
  · skip
    refine awp_plain hN rfl ?_
    refine seq_run0 (stp_fldP tyF42_0 rfl) ?_
    refine seq_run1 (stp_load1 tyS9 rfl rfl) rfl ?_
    obtain ⟨r2, h3, H⟩ := bnd H
    refine seq_run0 (stp_call (k_kit_IsKey v1.Id r2 h3) ⟨.inl rfl, trivial⟩) ?_
    refine seq_run0 (stp_not rfl) ?_
    refine seq_run0 (stp_move (.dat _) rfl) ?_
    refine seq_split (j := 4) rfl rfl (fun h4 => ?_) (fun h4 => ?_) rfl
    · have h5 := un3 h4
      replace H := iff_ h5 H
      refine seq_g0 rfl rfl h4 (stp_fldP tyF42_1 rfl) ?_
      refine seq_g1 rfl rfl h4 (stp_load1 tyS9 rfl rfl) rfl ?_
      obtain ⟨r6, h7, H⟩ := bnd H
      refine seq_g0 rfl rfl h4 (stp_call (k_kit_IsKey v1.Subject r6 h7) ⟨.inl rfl, trivial⟩) ?_
      refine seq_g0 rfl rfl h4 (stp_not rfl) ?_
      refine seq_run0 (stp_pick_f rfl (bFF h5) rfl) ?_
      refine seq_run0 (stp_move (.dat _) rfl) ?_
      refine seq_split (j := 10) rfl rfl (fun h8 => ?_) (fun h8 => ?_) rfl
      · have h9 := un3 h8
        replace H := iff_ h9 H
        refine seq_g0 rfl rfl h8 (stp_fldP tyF42_2 rfl) ?_
        refine seq_g1 rfl rfl h8 (stp_load1 tyS9 rfl rfl) rfl ?_
        obtain ⟨r10, h11, H⟩ := bnd H
        refine seq_g0 rfl rfl h8 (stp_call (k_kit_IsKey v1.Issuer r10 h11) ⟨.inl rfl, trivial⟩) ?_
        refine seq_g0 rfl rfl h8 (stp_not rfl) ?_
        refine seq_run0 (stp_pick_f rfl (bFF h9) rfl) ?_
        refine seq_run0 (stp_move (.dat _) rfl) ?_
        refine seq_split (j := 16) rfl rfl (fun h12 => ?_) (fun h12 => ?_) rfl
        · have h13 := un3 h12
          replace H := iff_ h13 H
          refine seq_g0 rfl rfl h12 (stp_fldP tyF42_3 rfl) ?_
          refine seq_g1 rfl rfl h12 (stp_load1 tyS9 rfl rfl) rfl ?_
          refine seq_g0 rfl rfl h12 (stp_sneq rfl rfl) ?_
          refine seq_g0 rfl rfl h12 (stp_move (.dat _) rfl) ?_
          refine seq_split (j := 20) rfl rfl (fun h14 => ?_) (fun h14 => ?_) rfl
          · have h15 := un1 h14
            replace H := ift h15 H
            refine seq_g0 rfl rfl h14 (stp_fldP tyF42_3 rfl) ?_
            refine seq_g1 rfl rfl h14 (stp_load1 tyS9 rfl rfl) rfl ?_
            obtain ⟨r16, h17, H⟩ := bnd H
            refine seq_g0 rfl rfl h14 (stp_call (k_kit_IsKey v1.Parent r16 h17) ⟨.inl rfl, trivial⟩) ?_
            refine seq_g0 rfl rfl h14 (stp_not rfl) ?_
            refine seq_g0 rfl rfl h12 (stp_pick_t rfl (bTT h15) rfl) ?_
            refine seq_run0 (stp_pick_f rfl (bFF h13) rfl) ?_
            exact ⟨!r16, H, ⟨rfl, rfl, trivial⟩, ⟨rfl, trivial⟩⟩
          · have h18 := un2 h14
            replace H := iff_ h18 H
            refine seq_skip rfl rfl h14 ?_
            refine seq_skip rfl rfl h14 ?_
            refine seq_skip rfl rfl h14 ?_
            refine seq_skip rfl rfl h14 ?_
            refine seq_g0 rfl rfl h12 (stp_pick_f rfl (bFF h18) rfl) ?_
            refine seq_run0 (stp_pick_f rfl (bFF h13) rfl) ?_
            exact ⟨false, H, ⟨rfl, rfl, trivial⟩, ⟨rfl, trivial⟩⟩
        · have h19 := un4 h12
          replace H := ift h19 H
          refine seq_skip rfl rfl h12 ?_
          refine seq_skip rfl rfl h12 ?_
          refine seq_skip rfl rfl h12 ?_
          refine seq_skip rfl rfl h12 ?_
          refine seq_skipU rfl rfl ?_
          refine seq_skipU rfl rfl ?_
          refine seq_skipU rfl rfl ?_
          refine seq_skipU rfl rfl ?_
          refine seq_skip rfl rfl h12 ?_
          refine seq_run0 (stp_pick_t rfl (bTT h19) rfl) ?_
          exact ⟨true, H, ⟨rfl, rfl, trivial⟩, ⟨rfl, trivial⟩⟩
      · have h20 := un4 h8
        replace H := ift h20 H
        refine seq_skip rfl rfl h8 ?_
        refine seq_skip rfl rfl h8 ?_
        refine seq_skip rfl rfl h8 ?_
        refine seq_skip rfl rfl h8 ?_
        refine seq_run0 (stp_pick_t rfl (bTT h20) rfl) ?_
        refine seq_run0 (stp_move (.dat _) rfl) ?_
        refine seq_skip rfl rfl rfl ?_
        refine seq_skip rfl rfl rfl ?_
        refine seq_skip rfl rfl rfl ?_
        refine seq_skip rfl rfl rfl ?_
        refine seq_skipU rfl rfl ?_
        refine seq_skipU rfl rfl ?_
        refine seq_skipU rfl rfl ?_
        refine seq_skipU rfl rfl ?_
        refine seq_skip rfl rfl rfl ?_
        refine seq_run0 (stp_pick_t rfl rfl rfl) ?_
        exact ⟨true, H, ⟨rfl, rfl, trivial⟩, ⟨rfl, trivial⟩⟩
    · have h21 := un4 h4
      replace H := ift h21 H
      refine seq_skip rfl rfl h4 ?_
      refine seq_skip rfl rfl h4 ?_
      refine seq_skip rfl rfl h4 ?_
      refine seq_skip rfl rfl h4 ?_
      refine seq_run0 (stp_pick_t rfl (bTT h21) rfl) ?_
      refine seq_run0 (stp_move (.dat _) rfl) ?_
      refine seq_skip rfl rfl rfl ?_
      refine seq_skip rfl rfl rfl ?_
      refine seq_skip rfl rfl rfl ?_
      refine seq_skip rfl rfl rfl ?_
      refine seq_run0 (stp_pick_t rfl rfl rfl) ?_
      refine seq_run0 (stp_move (.dat _) rfl) ?_
      refine seq_skip rfl rfl rfl ?_
      refine seq_skip rfl rfl rfl ?_
      refine seq_skip rfl rfl rfl ?_
      refine seq_skip rfl rfl rfl ?_
      refine seq_skipU rfl rfl ?_
      refine seq_skipU rfl rfl ?_
      refine seq_skipU rfl rfl ?_
      refine seq_skipU rfl rfl ?_
      refine seq_skip rfl rfl rfl ?_
      refine seq_run0 (stp_pick_t rfl rfl rfl) ?_
      exact ⟨true, H, ⟨rfl, rfl, trivial⟩, ⟨rfl, trivial⟩⟩
  · rintro v22 H
    replace H : token_CheckClaims_J1 v1 v22 = some r := H
    unfold token_CheckClaims_J1 at H
    refine awp_cond _ rfl (fun h23 => ?_) (fun h23 => ?_)
    · replace H := ift h23 H
      refine awp_seq ?_
      refine awp_plain hN rfl ?_
      refine seq_run0 (stp_assign (.dat _) rfl) ?_
      refine awp_ret ?_
      cases H
      exact ⟨trivial, .inl rfl, trivial⟩
    · replace H := iff_ h23 H
      refine awp_skip ?_
      refine awp_seq ?_
      refine awp_seq ?_
      refine awp_plain hN rfl ?_
      refine seq_run0 (stp_fldP tyF42_4 rfl) ?_
      refine seq_run1 (stp_load1 tyS26 rfl rfl) rfl ?_
      refine seq_run0 (t_len tyU26 rfl) ?_
      refine seq_run0 (stp_gtr rfl rfl) ?_
      refine awp_cond _ rfl (fun h24 => ?_) (fun h24 => ?_)
      · replace H := ift h24 H
        refine awp_seq ?_
        refine awp_plain hN rfl ?_
        refine seq_run0 (stp_assign (.dat _) rfl) ?_
        refine awp_ret ?_
        cases H
        exact ⟨trivial, .inl rfl, trivial⟩
      · replace H := iff_ h24 H
        refine awp_skip ?_
        refine awp_seq ?_
        refine awp_seq ?_
        refine awp_plain hN rfl ?_
        refine seq_run0 (stp_fldP tyF42_4 rfl) ?_
        refine seq_run1 (stp_load1 tyS26 rfl rfl) rfl ?_
        obtain ⟨r25, h26, H⟩ := bnd H
        refine seq_run0 (stp_call (k_kit_RisingFault v1.Audience r25 h26) ⟨.inl rfl, trivial⟩) ?_
        refine seq_run0 (stp_assign (.dat _) rfl) ?_
        refine awp_seq ?_
        refine awp_plain hN rfl ?_
        refine seq_run0 (stp_move (.dat _) rfl) ?_
        refine seq_run0 (stp_neq rfl rfl) ?_
        refine awp_cond _ rfl (fun h27 => ?_) (fun h27 => ?_)
        · replace H := ift h27 H
          refine awp_seq ?_
          refine awp_plain hN rfl ?_
          refine seq_run0 (stp_move (.dat _) rfl) ?_
          refine seq_run0 (stp_assign (.dat _) rfl) ?_
          refine awp_ret ?_
          cases H
          exact ⟨trivial, .inl rfl, trivial⟩
        · replace H := iff_ h27 H
          refine awp_skip ?_
          refine awp_seq ?_
          refine awp_seq ?_
          refine awp_plain hN rfl ?_
          refine seq_run0 (stp_fldP tyF42_5 rfl) ?_
          refine seq_run1 (stp_load1 tyS26 rfl rfl) rfl ?_
          obtain ⟨r28, h29, H⟩ := bnd H
          refine seq_run0 (stp_call (k_token_CheckScopes v1.Scopes r28 h29) ⟨.inl rfl, trivial⟩) ?_
          refine seq_run0 (stp_assign (.dat _) rfl) ?_
          refine awp_seq ?_
          refine awp_plain hN rfl ?_
          refine seq_run0 (stp_move (.dat _) rfl) ?_
          refine seq_run0 (stp_neq rfl rfl) ?_
          refine awp_cond _ rfl (fun h30 => ?_) (fun h30 => ?_)
          · replace H := ift h30 H
            refine awp_seq ?_
            refine awp_plain hN rfl ?_
            refine seq_run0 (stp_move (.dat _) rfl) ?_
            refine seq_run0 (stp_assign (.dat _) rfl) ?_
            refine awp_ret ?_
            cases H
            exact ⟨trivial, .inl rfl, trivial⟩
          · replace H := iff_ h30 H
            refine awp_skip ?_
            refine awp_seq ?_
            refine awp_seq ?_
            refine awp_draw mixed hN rfl rfl ?_
            refine seq_run0 (stp_fldP tyF42_5 rfl) ?_
            refine seq_run1 (stp_load1 tyS26 rfl rfl) rfl ?_
            refine seq_run0 (stp_fldP tyF42_5 rfl) ?_
            refine seq_run1 (stp_load1 tyS26 rfl rfl) rfl ?_
            obtain ⟨r31, h32, H⟩ := bnd H
            refine seq_run0 (stp_call (k_token_least v1.Scopes r31 h32) ⟨.inl rfl, trivial⟩) ?_
            obtain ⟨r33, h34, H⟩ := bnd H
            refine seq_run0 (stp_call (k_slices_Equal_L_string_string_ v1.Scopes r31 r33 h34) ⟨.inl rfl, .inl rfl, trivial⟩) ?_
            refine seq_run0 (stp_not rfl) ?_
            refine ⟨rfl, ?_⟩
            refine awp_cond _ rfl (fun h35 => ?_) (fun h35 => ?_)
            · replace H := ift h35 H
              refine awp_seq ?_
              refine awp_plain hN rfl ?_
              refine seq_run0 (stp_assign (.dat _) rfl) ?_
              refine awp_ret ?_
              cases H
              exact ⟨trivial, .inl rfl, trivial⟩
            · replace H := iff_ h35 H
              refine awp_skip ?_
              refine awp_seq ?_
              refine awp_seq ?_
              refine awp_plain hN rfl ?_
              refine seq_run0 (stp_fldP tyF42_6 rfl) ?_
              refine seq_run1 (stp_load1 tyS3 rfl rfl) rfl ?_
              refine seq_run0 (stp_lss rfl rfl) ?_
              refine seq_run0 (stp_move (.dat _) rfl) ?_
              refine seq_aF rfl rfl (fun hc => stp_fldP tyF42_6 rfl) ?_
              refine seq_arF rfl rfl (fun hc => stp_load1 tyS3 (cnd (c := (!(decide (v1.From < 0)))) hc) rfl) rfl anti_p ?_
              refine seq_aF rfl rfl (fun hc => stp_fldP tyF42_7 rfl) ?_
              refine seq_arF rfl rfl (fun hc => stp_load1 tyS3 (cnd (c := (!(decide (v1.From < 0)))) hc) rfl) rfl anti_p ?_
              refine seq_aF rfl rfl (fun hc => stp_geq (cnd (c := (!(decide (v1.From < 0)))) hc) (cnd (c := (!(decide (v1.From < 0)))) hc)) ?_
              refine seq_run0 (stp_pick_or rfl rfl (fun hb => (cnd (c := (!(decide (v1.From < 0)))) (notI hb)))) ?_
              refine seq_run0 (stp_move (.dat _) rfl) ?_
              refine seq_aF rfl rfl (fun hc => stp_fldP tyF42_7 rfl) ?_
              refine seq_arF rfl rfl (fun hc => stp_load1 tyS3 (cnd (c := (!((decide (v1.From < 0)) || (decide (v1.To ≤ v1.From))))) hc) rfl) rfl anti_p ?_
              refine seq_aF rfl rfl (fun hc => stp_gtr (cnd (c := (!((decide (v1.From < 0)) || (decide (v1.To ≤ v1.From))))) hc) rfl) ?_
              refine seq_run0 (stp_pick_or rfl rfl (fun hb => (cnd (c := (!((decide (v1.From < 0)) || (decide (v1.To ≤ v1.From))))) (notI hb)))) ?_
              refine awp_cond _ rfl (fun h36 => ?_) (fun h36 => ?_)
              · replace H := ift h36 H
                refine awp_seq ?_
                refine awp_plain hN rfl ?_
                refine seq_run0 (stp_assign (.dat _) rfl) ?_
                refine awp_ret ?_
                cases H
                exact ⟨trivial, .inl rfl, trivial⟩
              · replace H := iff_ h36 H
                refine awp_skip ?_
                refine awp_seq ?_
                refine awp_plain hN rfl ?_
                refine seq_run0 (stp_assign (.dat _) rfl) ?_
                refine awp_ret ?_
                cases H
                exact ⟨trivial, .inl rfl, trivial⟩
theorem k_token_coveredBy_1 (h1 : Bs) (c2 : Bs) (r : (Bool)) (H : m_token_coveredBy_1 h1 c2 = some r) : Fn Tryz.prog 81 [vstr h1, vcell [[vstr c2]] 0 0] (resOf [vbool r]) := by
  refine ⟨by kernel_rfl, pure_of (us := [vbool r]) Tryz.func81 rfl rfl rfl rfl fun X hN => ?_⟩
  unfold m_token_coveredBy_1 at H
  refine awp_seq ?_
  refine awp_plain hN rfl ?_
  refine seq_run0 (stp_assign (.dat _) rfl) ?_
  refine awp_seq ?_
  refine awp_plain hN rfl ?_
  refine seq_run0 (stp_move (.dat _) rfl) ?_
  refine seq_run0 (stp_loadE1 tyS9 rfl rfl rfl) ?_
  obtain ⟨r3, h4, H⟩ := bnd H
  refine seq_run0 (stp_call (k_token_covers h1 c2 r3 h4) ⟨.inl rfl, .inl rfl, trivial⟩) ?_
  refine seq_run0 (stp_assign (.dat _) rfl) ?_
  refine awp_ret ?_
  cases H
  exact ⟨trivial, .inl rfl, trivial⟩
theorem k_token_coveredBy (l1 : (List Bs)) (s2 : Bs) (r : (Bool)) (H : m_token_coveredBy l1 s2 = some r) : Fn Tryz.prog 58 [vlst (List.map C_string l1), vstr s2] (resOf [vbool r]) := by
  refine ⟨by kernel_rfl, pure_of (us := [vbool r]) Tryz.func58 rfl rfl rfl rfl fun X hN => ?_⟩
  unfold m_token_coveredBy at H
  refine awp_seq ?_
  refine awp_plain hN rfl ?_
  refine seq_run2 (stp_box1 1 rfl rfl) rfl ?_
  refine seq_run0 (stp_assign (.dat _) rfl) ?_
  refine awp_seq ?_
  refine awp_frzB 1 [vstr s2] rfl rfl ?_
  refine awp_plain hN rfl ?_
  refine seq_run0 (stp_move (.dat _) rfl) ?_
  refine seq_run0 (stp_mkfn (us := [_]) ⟨rfl, trivial⟩) ?_
  obtain ⟨r3, h4, H⟩ := bnd H
  refine seq_run0 (stp_call (k_slices_ContainsFunc_L_string_string_ l1 (fun (a0 : Bs) => m_token_coveredBy_1 a0 s2) 81 [vcell [[vstr s2]] 0 0] (fun a0 r h => k_token_coveredBy_1 a0 s2 r h) r3 h4) ⟨.inl rfl, .inl rfl, trivial⟩) ?_
  refine seq_run0 (stp_assign (.dat _) rfl) ?_
  refine awp_ret ?_
  cases H
  exact ⟨trivial, .inl rfl, trivial⟩
theorem k_token_coverAll_1 (s1 : Bs) (c2 : (List Bs)) (r : (Bool)) (H : m_token_coverAll_1 s1 c2 = some r) : Fn Tryz.prog 57 [vstr s1, vcell [[vlst (List.map C_string c2)]] 0 0] (resOf [vbool r]) := by
  refine ⟨by kernel_rfl, pure_of (us := [vbool r]) Tryz.func57 rfl rfl rfl rfl fun X hN => ?_⟩
  unfold m_token_coverAll_1 at H
  refine awp_seq ?_
  refine awp_plain hN rfl ?_
  refine seq_run0 (stp_assign (.dat _) rfl) ?_
  refine awp_seq ?_
  refine awp_plain hN rfl ?_
  refine seq_run0 (stp_loadE1 tyS26 rfl rfl rfl) ?_
  refine seq_run0 (stp_move (.dat _) rfl) ?_
  obtain ⟨r3, h4, H⟩ := bnd H
  refine seq_run0 (stp_call (k_token_coveredBy c2 s1 r3 h4) ⟨.inl rfl, .inl rfl, trivial⟩) ?_
  refine seq_run0 (stp_not rfl) ?_
  refine seq_run0 (stp_assign (.dat _) rfl) ?_
  refine awp_ret ?_
  cases H
  exact ⟨trivial, .inl rfl, trivial⟩
theorem k_token_coverAll (v1 : (List Bs)) (want2 : (List Bs)) (r : (Bool)) (H : m_token_coverAll v1 want2 = some r) : Fn Tryz.prog 31 [vlst (List.map C_string v1), vlst (List.map C_string want2)] (resOf [vbool r]) := by
  refine ⟨by kernel_rfl, pure_of (us := [vbool r]) Tryz.func31 rfl rfl rfl rfl fun X hN => ?_⟩
  unfold m_token_coverAll at H
  refine awp_seq ?_
  refine awp_plain hN rfl ?_
  refine seq_run2 (stp_box1 1 rfl rfl) rfl ?_
  refine seq_run0 (stp_assign (.dat _) rfl) ?_
  refine awp_seq ?_
  refine awp_frzB 1 [vlst (List.map C_string v1)] rfl rfl ?_
  refine awp_plain hN rfl ?_
  refine seq_run0 (stp_move (.dat _) rfl) ?_
  refine seq_run0 (stp_mkfn (us := [_]) ⟨rfl, trivial⟩) ?_
  obtain ⟨r3, h4, H⟩ := bnd H
  refine seq_run0 (stp_call (k_slices_ContainsFunc_L_string_string_ want2 (fun (a0 : Bs) => m_token_coverAll_1 a0 v1) 57 [vcell [[vlst (List.map C_string v1)]] 0 0] (fun a0 r h => k_token_coverAll_1 a0 v1 r h) r3 h4) ⟨.inl rfl, .inl rfl, trivial⟩) ?_
  refine seq_run0 (stp_not rfl) ?_
  refine seq_run0 (stp_assign (.dat _) rfl) ?_
  refine awp_ret ?_
  cases H
  exact ⟨trivial, .inl rfl, trivial⟩
theorem k_token_Delegate (v1 : S_api_Claims) (v2 : Bs) (v3 : Bs) (v4 : (List Bs)) (v5 : S_api_Window) (r : (S_api_Claims × Int)) (H : m_token_Delegate v1 v2 v3 v4 v5 = some r) : Fn Tryz.prog 21 [vagg (C_api_Claims v1), vstr v2, vstr v3, vlst (List.map C_string v4), vagg (C_api_Window v5)] (resOf [vagg (C_api_Claims r.1), vint r.2]) := by
  refine ⟨by kernel_rfl, pure_of (us := [vagg (C_api_Claims r.1), vint r.2]) Tryz.func21 rfl rfl rfl rfl fun X hN => ?_⟩
  unfold m_token_Delegate at H
  refine awp_seq ?_
  refine awp_plain hN rfl ?_
  refine seq_run2 (stp_boxA 1 rfl) rfl ?_
  refine seq_run2 (stp_boxA 2 rfl) rfl ?_
  refine seq_run2 (stp_alloc 3 tyZ42 rfl) rfl ?_
  refine seq_run0 (stp_assign (.dat _) rfl) ?_
  refine awp_seq ?_
  refine awp_seq ?_
  refine awp_plain hN rfl ?_
  refine seq_run1 (stp_loadA tyS42 rfl rfl rfl) rfl ?_
  obtain ⟨r6, h7, H⟩ := bnd H
  refine seq_run0 (stp_call (k_token_CheckClaims v1 r6 h7) ⟨.inl rfl, trivial⟩) ?_
  refine seq_run0 (stp_assign (.dat _) rfl) ?_
  refine awp_seq ?_
  refine awp_plain hN rfl ?_
  refine seq_run0 (stp_move (.dat _) rfl) ?_
  refine seq_run0 (stp_neq rfl rfl) ?_
  refine awp_cond _ rfl (fun h8 => ?_) (fun h8 => ?_)
  · replace H := ift h8 H
    refine awp_seq ?_
    refine awp_plain hN rfl ?_
    refine seq_run0 (stp_wk (u' := vagg (C_api_Claims (S_api_Claims.mk [] [] [] [] [] [] 0 0))) (wk_agg (by exact ⟨wk_rfl, wk_rfl, wk_rfl, wk_rfl, wk_nil, wk_nil, wk_rfl, wk_rfl, trivial⟩)) (stp_build [] tyZ42 tyP42 rfl trivial)) ?_
    refine seq_run0 (stp_move (.dat _) rfl) ?_
    refine seq_run2 (stp_storeW tyS42 rfl rfl rfl rfl) rfl ?_
    refine seq_run0 (stp_assign (.dat _) rfl) ?_
    refine awp_ret ?_
    cases H
    exact ⟨trivial, .inl ⟨_, _, _, C_api_Claims (S_api_Claims.mk [] [] [] [] [] [] 0 0), rfl, rfl, rfl, rfl, tyS42⟩, .inl rfl, trivial⟩
  · replace H := iff_ h8 H
    refine awp_skip ?_
    refine awp_seq ?_
    refine awp_seq ?_
    refine awp_plain hN rfl ?_
    refine seq_run0 (stp_move (.dat _) rfl) ?_
    obtain ⟨r9, h10, H⟩ := bnd H
    refine seq_run0 (stp_call (k_token_CheckScopes v4 r9 h10) ⟨.inl rfl, trivial⟩) ?_
    refine seq_run0 (stp_assign (.dat _) rfl) ?_
    refine awp_seq ?_
    refine awp_plain hN rfl ?_
    refine seq_run0 (stp_move (.dat _) rfl) ?_
    refine seq_run0 (stp_neq rfl rfl) ?_
    refine awp_cond _ rfl (fun h11 => ?_) (fun h11 => ?_)
    · replace H := ift h11 H
      refine awp_seq ?_
      refine awp_plain hN rfl ?_
      refine seq_run0 (stp_wk (u' := vagg (C_api_Claims (S_api_Claims.mk [] [] [] [] [] [] 0 0))) (wk_agg (by exact ⟨wk_rfl, wk_rfl, wk_rfl, wk_rfl, wk_nil, wk_nil, wk_rfl, wk_rfl, trivial⟩)) (stp_build [] tyZ42 tyP42 rfl trivial)) ?_
      refine seq_run0 (stp_move (.dat _) rfl) ?_
      refine seq_run2 (stp_storeW tyS42 rfl rfl rfl rfl) rfl ?_
      refine seq_run0 (stp_assign (.dat _) rfl) ?_
      refine awp_ret ?_
      cases H
      exact ⟨trivial, .inl ⟨_, _, _, C_api_Claims (S_api_Claims.mk [] [] [] [] [] [] 0 0), rfl, rfl, rfl, rfl, tyS42⟩, .inl rfl, trivial⟩
    · replace H := iff_ h11 H
      refine awp_skip ?_
      refine awp_seq ?_
      refine awp_block ?_
      refine awp_joinE (ι := Bool) (fun i => [(1, .dat (vstr v2)), (2, .dat (vstr v3)), (3, .dat (vlst (List.map C_string v4))), (5, .ptr 1 0), (9, .ptr 2 0), (10, .ptr 3 0), (28, .dat (vbool i))]) (fun i => [(1, .box none 42 [.dat (vstr v1.Id), .dat (vstr v1.Subject), .dat (vstr v1.Issuer), .dat (vstr v1.Parent), .dat (vlst (List.map C_string v1.Audience)), .dat (vlst (List.map C_string v1.Scopes)), .dat (vint v1.From), .dat (vint v1.To)]), (2, .box none 48 [.dat (vint v5.From), .dat (vint v5.To)]), (3, .box none 42 [.dat (vstr []), .dat (vstr []), .dat (vstr []), .dat (vstr []), .dat (vnil), .dat (vnil), .dat (vint 0), .dat (vint 0)])]) (fun i => token_Delegate_J1 v1 v2 v3 v4 v5 i = some r) (fun i => rfl) ?_ ?_
      · skip
        refine awp_plain hN rfl ?_
        refine seq_run0 (stp_move (.dat _) rfl) ?_
        obtain ⟨r12, h13, H⟩ := bnd H
        refine seq_run0 (stp_call (k_kit_IsKey v2 r12 h13) ⟨.inl rfl, trivial⟩) ?_
        refine seq_run0 (stp_not rfl) ?_
        refine seq_run0 (stp_move (.dat _) rfl) ?_
        refine seq_split (j := 3) rfl rfl (fun h14 => ?_) (fun h14 => ?_) rfl
        · have h15 := un3 h14
          replace H := iff_ h15 H
          refine seq_g0 rfl rfl h14 (stp_move (.dat _) rfl) ?_
          obtain ⟨r16, h17, H⟩ := bnd H
          refine seq_g0 rfl rfl h14 (stp_call (k_kit_IsKey v3 r16 h17) ⟨.inl rfl, trivial⟩) ?_
          refine seq_g0 rfl rfl h14 (stp_not rfl) ?_
          refine seq_run0 (stp_pick_f rfl (bFF h15) rfl) ?_
          refine seq_run0 (stp_assign (.dat _) rfl) ?_
          exact ⟨!r16, H, ⟨rfl, rfl, rfl, rfl, rfl, rfl, rfl, trivial⟩, ⟨rfl, rfl, rfl, trivial⟩⟩
        · have h18 := un4 h14
          replace H := ift h18 H
          refine seq_skip rfl rfl h14 ?_
          refine seq_skip rfl rfl h14 ?_
          refine seq_skip rfl rfl h14 ?_
          refine seq_run0 (stp_pick_t rfl (bTT h18) rfl) ?_
          refine seq_run0 (stp_assign (.dat _) rfl) ?_
          exact ⟨true, H, ⟨rfl, rfl, rfl, rfl, rfl, rfl, rfl, trivial⟩, ⟨rfl, rfl, rfl, trivial⟩⟩
      · rintro v19 H
        replace H : token_Delegate_J1 v1 v2 v3 v4 v5 v19 = some r := H
        unfold token_Delegate_J1 at H
        refine awp_cond _ rfl (fun h20 => ?_) (fun h20 => ?_)
        · replace H := ift h20 H
          refine awp_seq ?_
          refine awp_plain hN rfl ?_
          refine seq_run0 (stp_wk (u' := vagg (C_api_Claims (S_api_Claims.mk [] [] [] [] [] [] 0 0))) (wk_agg (by exact ⟨wk_rfl, wk_rfl, wk_rfl, wk_rfl, wk_nil, wk_nil, wk_rfl, wk_rfl, trivial⟩)) (stp_build [] tyZ42 tyP42 rfl trivial)) ?_
          refine seq_run2 (stp_storeW tyS42 rfl rfl rfl rfl) rfl ?_
          refine seq_run0 (stp_assign (.dat _) rfl) ?_
          refine awp_ret ?_
          cases H
          exact ⟨trivial, .inl ⟨_, _, _, C_api_Claims (S_api_Claims.mk [] [] [] [] [] [] 0 0), rfl, rfl, rfl, rfl, tyS42⟩, .inl rfl, trivial⟩
        · replace H := iff_ h20 H
          refine awp_seq ?_
          refine awp_plain hN rfl ?_
          refine seq_run0 (stp_move (.dat _) rfl) ?_
          refine seq_run0 (stp_fldP tyF42_0 rfl) ?_
          refine seq_run1 (stp_load1 tyS9 rfl rfl) rfl ?_
          refine seq_run0 (stp_seql rfl rfl) ?_
          refine seq_run0 (stp_assign (.dat _) rfl) ?_
          refine awp_cond _ rfl (fun h21 => ?_) (fun h21 => ?_)
          · replace H := ift h21 H
            refine awp_seq ?_
            refine awp_plain hN rfl ?_
            refine seq_run0 (stp_wk (u' := vagg (C_api_Claims (S_api_Claims.mk [] [] [] [] [] [] 0 0))) (wk_agg (by exact ⟨wk_rfl, wk_rfl, wk_rfl, wk_rfl, wk_nil, wk_nil, wk_rfl, wk_rfl, trivial⟩)) (stp_build [] tyZ42 tyP42 rfl trivial)) ?_
            refine seq_run2 (stp_storeW tyS42 rfl rfl rfl rfl) rfl ?_
            refine seq_run0 (stp_assign (.dat _) rfl) ?_
            refine awp_ret ?_
            cases H
            exact ⟨trivial, .inl ⟨_, _, _, C_api_Claims (S_api_Claims.mk [] [] [] [] [] [] 0 0), rfl, rfl, rfl, rfl, tyS42⟩, .inl rfl, trivial⟩
          · replace H := iff_ h21 H
            refine awp_seq ?_
            refine awp_plain hN rfl ?_
            refine seq_run0 (stp_fldP tyF42_5 rfl) ?_
            refine seq_run1 (stp_load1 tyS26 rfl rfl) rfl ?_
            refine seq_run0 (stp_move (.dat _) rfl) ?_
            obtain ⟨r22, h23, H⟩ := bnd H
            refine seq_run0 (stp_call (k_token_coverAll v1.Scopes v4 r22 h23) ⟨.inl rfl, .inl rfl, trivial⟩) ?_
            refine seq_run0 (stp_not rfl) ?_
            refine seq_run0 (stp_assign (.dat _) rfl) ?_
            refine awp_cond _ rfl (fun h24 => ?_) (fun h24 => ?_)
            · replace H := ift h24 H
              refine awp_seq ?_
              refine awp_plain hN rfl ?_
              refine seq_run0 (stp_wk (u' := vagg (C_api_Claims (S_api_Claims.mk [] [] [] [] [] [] 0 0))) (wk_agg (by exact ⟨wk_rfl, wk_rfl, wk_rfl, wk_rfl, wk_nil, wk_nil, wk_rfl, wk_rfl, trivial⟩)) (stp_build [] tyZ42 tyP42 rfl trivial)) ?_
              refine seq_run2 (stp_storeW tyS42 rfl rfl rfl rfl) rfl ?_
              refine seq_run0 (stp_assign (.dat _) rfl) ?_
              refine awp_ret ?_
              cases H
              exact ⟨trivial, .inl ⟨_, _, _, C_api_Claims (S_api_Claims.mk [] [] [] [] [] [] 0 0), rfl, rfl, rfl, rfl, tyS42⟩, .inl rfl, trivial⟩
            · replace H := iff_ h24 H
              refine awp_seq ?_
              refine awp_plain hN rfl ?_
              refine seq_run0 (stp_fldP tyF48_0 rfl) ?_
              refine seq_run1 (stp_load1 tyS3 rfl rfl) rfl ?_
              refine seq_run0 (stp_fldP tyF42_6 rfl) ?_
              refine seq_run1 (stp_load1 tyS3 rfl rfl) rfl ?_
              refine seq_run0 (stp_lss rfl rfl) ?_
              refine seq_run0 (stp_move (.dat _) rfl) ?_
              refine seq_aF rfl rfl (fun hc => stp_fldP tyF48_1 rfl) ?_
              refine seq_arF rfl rfl (fun hc => stp_load1 tyS3 (cnd (c := (!(decide (v5.From < v1.From)))) hc) rfl) rfl anti_p ?_
              refine seq_aF rfl rfl (fun hc => stp_fldP tyF42_7 rfl) ?_
              refine seq_arF rfl rfl (fun hc => stp_load1 tyS3 (cnd (c := (!(decide (v5.From < v1.From)))) hc) rfl) rfl anti_p ?_
              refine seq_aF rfl rfl (fun hc => stp_gtr (cnd (c := (!(decide (v5.From < v1.From)))) hc) (cnd (c := (!(decide (v5.From < v1.From)))) hc)) ?_
              refine seq_run0 (stp_pick_or rfl rfl (fun hb => (cnd (c := (!(decide (v5.From < v1.From)))) (notI hb)))) ?_
              refine seq_run0 (stp_assign (.dat _) rfl) ?_
              refine awp_cond _ rfl (fun h25 => ?_) (fun h25 => ?_)
              · replace H := ift h25 H
                refine awp_seq ?_
                refine awp_plain hN rfl ?_
                refine seq_run0 (stp_wk (u' := vagg (C_api_Claims (S_api_Claims.mk [] [] [] [] [] [] 0 0))) (wk_agg (by exact ⟨wk_rfl, wk_rfl, wk_rfl, wk_rfl, wk_nil, wk_nil, wk_rfl, wk_rfl, trivial⟩)) (stp_build [] tyZ42 tyP42 rfl trivial)) ?_
                refine seq_run2 (stp_storeW tyS42 rfl rfl rfl rfl) rfl ?_
                refine seq_run0 (stp_assign (.dat _) rfl) ?_
                refine awp_ret ?_
                cases H
                exact ⟨trivial, .inl ⟨_, _, _, C_api_Claims (S_api_Claims.mk [] [] [] [] [] [] 0 0), rfl, rfl, rfl, rfl, tyS42⟩, .inl rfl, trivial⟩
              · replace H := iff_ h25 H
                refine awp_skip ?_
                refine awp_seq ?_
                refine awp_draw mixed hN rfl rfl ?_
                refine seq_run0 (stp_move (.dat _) rfl) ?_
                refine seq_run0 (stp_move (.dat _) rfl) ?_
                refine seq_run0 (stp_fldP tyF42_2 rfl) ?_
                refine seq_run1 (stp_load1 tyS9 rfl rfl) rfl ?_
                refine seq_run0 (stp_fldP tyF42_0 rfl) ?_
                refine seq_run1 (stp_load1 tyS9 rfl rfl) rfl ?_
                refine seq_run0 (stp_fldP tyF42_4 rfl) ?_
                refine seq_run1 (stp_load1 tyS26 rfl rfl) rfl ?_
                obtain ⟨r26, h27, H⟩ := bnd H
                refine seq_run0 (stp_call (k_slices_Clone_L_string_string_ v1.Audience r26 h27) ⟨.inl rfl, trivial⟩) ?_
                refine seq_run0 (stp_move (.dat _) rfl) ?_
                obtain ⟨r28, h29, H⟩ := bnd H
                refine seq_run0 (stp_call (k_token_least v4 r28 h29) ⟨.inl rfl, trivial⟩) ?_
                refine seq_run0 (stp_fldP tyF48_0 rfl) ?_
                refine seq_run1 (stp_load1 tyS3 rfl rfl) rfl ?_
                refine seq_run0 (stp_fldP tyF48_1 rfl) ?_
                refine seq_run1 (stp_load1 tyS3 rfl rfl) rfl ?_
                refine seq_run0 (stp_dat (u' := vagg (C_api_Claims (S_api_Claims.mk v2 v3 v1.Issuer v1.Id r26 r28 v5.From v5.To))) (stp_build [(0, [vstr v2]), (1, [vstr v3]), (2, [vstr v1.Issuer]), (3, [vstr v1.Id]), (4, [vlst (List.map C_string r26)]), (5, [vlst (List.map C_string r28)]), (6, [vint v5.From]), (7, [vint v5.To])] tyZ42 tyP42 rfl ⟨rfl, .inl ⟨_, rfl, rfl, rfl⟩, rfl, rfl, .inl ⟨_, rfl, rfl, rfl⟩, rfl, rfl, .inl ⟨_, rfl, rfl, rfl⟩, rfl, rfl, .inl ⟨_, rfl, rfl, rfl⟩, rfl, rfl, .inl ⟨_, rfl, rfl, rfl⟩, rfl, rfl, .inl ⟨_, rfl, rfl, rfl⟩, rfl, rfl, .inl ⟨_, rfl, rfl, rfl⟩, rfl, rfl, .inl ⟨_, rfl, rfl, rfl⟩, rfl, trivial⟩) rfl) ?_
                refine seq_run2 (stp_alloc 4 tyZ42 rfl) rfl ?_
                refine seq_run2 (stp_storeW tyS42 rfl rfl rfl rfl) rfl ?_
                refine ⟨rfl, ?_⟩
                refine awp_seq ?_
                refine awp_seq ?_
                refine awp_plain hN rfl ?_
                refine seq_run1 (stp_loadA tyS42 rfl rfl rfl) rfl ?_
                obtain ⟨r30, h31, H⟩ := bnd H
                refine seq_run0 (stp_call (k_token_CheckClaims (S_api_Claims.mk v2 v3 v1.Issuer v1.Id r26 r28 v5.From v5.To) r30 h31) ⟨.inl rfl, trivial⟩) ?_
                refine seq_run0 (stp_assign (.dat _) rfl) ?_
                refine awp_seq ?_
                refine awp_plain hN rfl ?_
                refine seq_run0 (stp_move (.dat _) rfl) ?_
                refine seq_run0 (stp_neq rfl rfl) ?_
                refine awp_cond _ rfl (fun h32 => ?_) (fun h32 => ?_)
                · replace H := ift h32 H
                  refine awp_seq ?_
                  refine awp_plain hN rfl ?_
                  refine seq_run0 (stp_wk (u' := vagg (C_api_Claims (S_api_Claims.mk [] [] [] [] [] [] 0 0))) (wk_agg (by exact ⟨wk_rfl, wk_rfl, wk_rfl, wk_rfl, wk_nil, wk_nil, wk_rfl, wk_rfl, trivial⟩)) (stp_build [] tyZ42 tyP42 rfl trivial)) ?_
                  refine seq_run0 (stp_move (.dat _) rfl) ?_
                  refine seq_run2 (stp_storeW tyS42 rfl rfl rfl rfl) rfl ?_
                  refine seq_run0 (stp_assign (.dat _) rfl) ?_
                  refine awp_ret ?_
                  cases H
                  exact ⟨trivial, .inl ⟨_, _, _, C_api_Claims (S_api_Claims.mk [] [] [] [] [] [] 0 0), rfl, rfl, rfl, rfl, tyS42⟩, .inl rfl, trivial⟩
                · replace H := iff_ h32 H
                  refine awp_skip ?_
                  refine awp_seq ?_
                  refine awp_plain hN rfl ?_
                  refine seq_run1 (stp_loadA tyS42 rfl rfl rfl) rfl ?_
                  refine seq_run2 (stp_storeW tyS42 rfl rfl rfl rfl) rfl ?_
                  refine seq_run0 (stp_assign (.dat _) rfl) ?_
                  refine awp_ret ?_
                  cases H
                  exact ⟨trivial, .inl ⟨_, _, _, C_api_Claims (S_api_Claims.mk v2 v3 v1.Issuer v1.Id r26 r28 v5.From v5.To), rfl, rfl, rfl, rfl, tyS42⟩, .inl rfl, trivial⟩
theorem k_gateref2_in (n1 : Int) (low2 : Int) (high3 : Int) (r : (Bool)) (H : m_gateref2_in n1 low2 high3 = some r) : Fn Tryz.prog 72 [vint n1, vint low2, vint high3] (resOf [vbool r]) := by
  refine ⟨by kernel_rfl, pure_of (us := [vbool r]) Tryz.func72 rfl rfl rfl rfl fun X hN => ?_⟩
  unfold m_gateref2_in at H
  refine awp_seq ?_
  refine awp_plain hN rfl ?_
  refine seq_run0 (stp_assign (.dat _) rfl) ?_
  refine awp_seq ?_
  refine awp_plain hN rfl ?_
  refine seq_run0 (stp_move (.dat _) rfl) ?_
  refine seq_run0 (stp_move (.dat _) rfl) ?_
  refine seq_run0 (stp_leq rfl rfl) ?_
  refine seq_run0 (stp_move (.dat _) rfl) ?_
  refine seq_aT rfl rfl (fun hc => stp_move (.dat _) rfl) ?_
  refine seq_aT rfl rfl (fun hc => stp_move (.dat _) rfl) ?_
  refine seq_aT rfl rfl (fun hc => stp_leq (cnd (c := (decide (low2 ≤ n1))) hc) (cnd (c := (decide (low2 ≤ n1))) hc)) ?_
  refine seq_run0 (stp_pick_and rfl (fun hb => (cnd (c := (decide (low2 ≤ n1))) hb)) rfl) ?_
  refine seq_run0 (stp_assign (.dat _) rfl) ?_
  refine awp_ret ?_
  cases H
  exact ⟨trivial, .inl rfl, trivial⟩
theorem k_strings_IndexByte (l : Bs) (c r : Int) (H : m_strings_IndexByte l c = some r) : Fn Tryz.prog 96 [vstr l, vval (.int .u8 c)] (resOf [vint r]) := by
  cases H
  refine fn_of_calls (by kernel_rfl) fun M w vs h => ?_
  have h1 := Ts_vals (us := [.string ⟨l.toArray⟩, .int .u8 c]) h
  subst h1
  refine (Tryz.strings_IndexByte ⟨l.toArray⟩ c w).mono ?_
  rintro e w' ⟨rfl, rfl⟩
  exact ⟨_, rfl, rfl, Kp.refl _ _⟩
theorem k_gateref2_only (s1 : Bs) (some2 : Bs) (r : (Bool)) (H : m_gateref2_only s1 some2 = some r) : Fn Tryz.prog 73 [vstr s1, vstr some2] (resOf [vbool r]) := by
  refine ⟨by kernel_rfl, pure_of (us := [vbool r]) Tryz.func73 rfl rfl rfl rfl fun X hN => ?_⟩
  unfold m_gateref2_only at H
  refine awp_seq ?_
  refine awp_plain hN rfl ?_
  refine seq_run0 (stp_assign (.dat _) rfl) ?_
  refine awp_seq ?_
  refine awp_seq ?_
  refine awp_plain hN rfl ?_
  refine seq_run0 (stp_move (.dat _) rfl) ?_
  refine seq_run0 (stp_len_str tyU9 rfl) ?_
  refine seq_run0 (stp_move (.dat _) rfl) ?_
  refine awp_block ?_
  obtain ⟨h5, H⟩ := gif H
  refine awp_forL (fun (k3 : Nat) (s : Unit) => [(0, .dat (vstr s1)), (1, .dat (vstr some2)), (7, .dat (vint (s1.length : Int))), (8, .dat (vint (k3 : Int)))]) (fun (k3 : Nat) (s : Unit) => []) () H ⟨rfl, rfl, rfl, rfl, trivial⟩ trivial (fun _ _ => rfl) ?_ ?_
  · rintro ⟨⟩ H
    replace H : gateref2_only_E1 = some r := H
    unfold gateref2_only_E1 at H
    refine awp_seq ?_
    refine awp_plain hN rfl ?_
    refine seq_run0 (stp_lss rfl rfl) ?_
    refine awp_seq ?_
    refine awp_cond _ rfl (fun h => (lt_t h).elim) (fun h => ?_)
    refine awp_exit ?_
    refine awp_seq ?_
    refine awp_plain hN rfl ?_
    refine seq_run0 (stp_assign (.dat _) rfl) ?_
    refine awp_ret ?_
    cases H
    exact ⟨trivial, .inl rfl, trivial⟩
  · rintro k3 x6 ⟨⟩ q4 h7 h8 H hq4
    replace H : gateref2_only_L1 some2 k3 x6 = some q4 := H
    unfold gateref2_only_L1 at H
    refine awp_seq ?_
    refine awp_plain hN rfl ?_
    refine seq_run0 (stp_lss rfl rfl) ?_
    refine awp_seq ?_
    refine awp_cond _ rfl (fun h => ?_) (fun h => (lt_f h7 h).elim)
    refine awp_skip ?_
    refine awp_seq ?_
    refine awp_block ?_
    refine awp_seq ?_
    refine awp_plain hN rfl ?_
    refine seq_run0 (stp_move (.dat _) rfl) ?_
    refine seq_run0 (stp_assign (.dat _) rfl) ?_
    refine awp_seq ?_
    refine awp_plain hN rfl ?_
    refine seq_run0 (stp_move (.dat _) rfl) ?_
    refine seq_run0 (stp_move (.dat _) rfl) ?_
    refine seq_run0 (stp_move (.dat _) rfl) ?_
    refine seq_run0 (t_byte tyU9 rfl rfl h8) ?_
    obtain ⟨r9, h10, H⟩ := bnd H
    refine seq_run0 (stp_call (k_strings_IndexByte some2 (x6.toNat : Int) r9 h10) ⟨.inl rfl, .inl rfl, trivial⟩) ?_
    refine seq_run0 (stp_lss rfl rfl) ?_
    refine awp_cond _ rfl (fun h11 => ?_) (fun h11 => ?_)
    · replace H := ift h11 H
      refine awp_seq ?_
      refine awp_plain hN rfl ?_
      refine seq_run0 (stp_assign (.dat _) rfl) ?_
      refine awp_ret ?_
      replace H := retl H hq4
      cases H
      exact ⟨trivial, .inl rfl, trivial⟩
    · replace H := iff_ h11 H
      refine awp_skip ?_
      refine awp_plain hN rfl ?_
      refine seq_run0 (stp_add rfl rfl (by omega)) ?_
      refine seq_run0 (stp_move (.dat _) rfl) ?_
      exact ⟨_, backl H, ⟨rfl, rfl, rfl, rfl, trivial⟩, trivial⟩
theorem k_gateref2_Key (s1 : Bs) (r : (Bool)) (H : m_gateref2_Key s1 = some r) : Fn Tryz.prog 51 [vstr s1] (resOf [vbool r]) := by
  refine ⟨by kernel_rfl, pure_of (us := [vbool r]) Tryz.func51 rfl rfl rfl rfl fun X hN => ?_⟩
  unfold m_gateref2_Key at H
  refine awp_seq ?_
  refine awp_plain hN rfl ?_
  refine seq_run0 (stp_assign (.dat _) rfl) ?_
  refine awp_joinE (ι := Bool) (fun i => [(2, .dat (vbool i))]) (fun i => []) (fun i => gateref2_Key_J1 i = some r) (fun i => rfl) ?_ ?_
  · skip
    refine awp_plain hN rfl ?_
    refine seq_run0 (stp_move (.dat _) rfl) ?_
    refine seq_run0 (stp_len_str tyU9 rfl) ?_
    obtain ⟨r2, h3, H⟩ := bnd H
    refine seq_run0 (stp_call (k_gateref2_in (s1.length : Int) 1 40 r2 h3) ⟨.inl rfl, .inl rfl, .inl rfl, trivial⟩) ?_
    refine seq_run0 (stp_move (.dat _) rfl) ?_
    refine seq_split (j := 3) rfl rfl (fun h4 => ?_) (fun h4 => ?_) rfl
    · have h5 := un1 h4
      replace H := ift h5 H
      refine seq_g0 rfl rfl h4 (stp_move (.dat _) rfl) ?_
      obtain ⟨l6, h7, H⟩ := bnd H
      refine seq_g0 rfl rfl h4 (t_subS tyU9 rfl rfl rfl h7) ?_
      obtain ⟨r8, h9, H⟩ := bnd H
      refine seq_g0 rfl rfl h4 (stp_call (k_gateref2_only l6 [97, 98, 99, 100, 101, 102, 103, 104, 105, 106, 107, 108, 109, 110, 111, 112, 113, 114, 115, 116, 117, 118, 119, 120, 121, 122] r8 h9) ⟨.inl rfl, .inl rfl, trivial⟩) ?_
      refine seq_run0 (stp_pick_t rfl (bTT h5) rfl) ?_
      refine seq_run0 (stp_move (.dat _) rfl) ?_
      refine seq_split (j := 8) rfl rfl (fun h10 => ?_) (fun h10 => ?_) rfl
      · have h11 := un1 h10
        replace H := ift h11 H
        refine seq_g0 rfl rfl h10 (stp_move (.dat _) rfl) ?_
        obtain ⟨r12, h13, H⟩ := bnd H
        refine seq_g0 rfl rfl h10 (stp_call (k_gateref2_only s1 [97, 98, 99, 100, 101, 102, 103, 104, 105, 106, 107, 108, 109, 110, 111, 112, 113, 114, 115, 116, 117, 118, 119, 120, 121, 122, 48, 49, 50, 51, 52, 53, 54, 55, 56, 57, 45, 95] r12 h13) ⟨.inl rfl, .inl rfl, trivial⟩) ?_
        refine seq_run0 (stp_pick_t rfl (bTT h11) rfl) ?_
        refine seq_run0 (stp_assign (.dat _) rfl) ?_
        exact ⟨r12, H, ⟨rfl, trivial⟩, trivial⟩
      · have h14 := un2 h10
        replace H := iff_ h14 H
        refine seq_skip rfl rfl h10 ?_
        refine seq_skip rfl rfl h10 ?_
        refine seq_run0 (stp_pick_f rfl (bFF h14) rfl) ?_
        refine seq_run0 (stp_assign (.dat _) rfl) ?_
        exact ⟨false, H, ⟨rfl, trivial⟩, trivial⟩
    · have h15 := un2 h4
      replace H := iff_ h15 H
      refine seq_skip rfl rfl h4 ?_
      refine seq_skip rfl rfl h4 ?_
      refine seq_skip rfl rfl h4 ?_
      refine seq_run0 (stp_pick_f rfl (bFF h15) rfl) ?_
      refine seq_run0 (stp_move (.dat _) rfl) ?_
      refine seq_skip rfl rfl rfl ?_
      refine seq_skip rfl rfl rfl ?_
      refine seq_run0 (stp_pick_f rfl rfl rfl) ?_
      refine seq_run0 (stp_assign (.dat _) rfl) ?_
      exact ⟨false, H, ⟨rfl, trivial⟩, trivial⟩
  · rintro v16 H
    replace H : gateref2_Key_J1 v16 = some r := H
    unfold gateref2_Key_J1 at H
    refine awp_ret ?_
    cases H
    exact ⟨trivial, .inl rfl, trivial⟩
theorem k_gateref2_scope (s1 : Bs) (r : (Bool)) (H : m_gateref2_scope s1 = some r) : Fn Tryz.prog 34 [vstr s1] (resOf [vbool r]) := by
  refine ⟨by kernel_rfl, pure_of (us := [vbool r]) Tryz.func34 rfl rfl rfl rfl fun X hN => ?_⟩
  unfold m_gateref2_scope at H
  refine awp_seq ?_
  refine awp_plain hN rfl ?_
  refine seq_run0 (stp_assign (.dat _) rfl) ?_
  refine awp_seq ?_
  refine awp_plain hN rfl ?_
  refine seq_run0 (stp_move (.dat _) rfl) ?_
  obtain ⟨r2, h3, H⟩ := bnd H
  refine seq_run0 (stp_call (k_strings_Split s1 [58] r2 h3) ⟨.inl rfl, .inl rfl, trivial⟩) ?_
  refine seq_run0 (stp_assign (.dat _) rfl) ?_
  refine awp_seq ?_
  refine awp_seq ?_
  refine awp_plain hN rfl ?_
  refine seq_run0 (stp_move (.dat _) rfl) ?_
  refine seq_run0 (t_len tyU26 rfl) ?_
  refine seq_run0 (stp_move (.dat _) rfl) ?_
  refine awp_block ?_
  obtain ⟨h6, H⟩ := gif H
  refine awp_forL (fun (k4 : Nat) (s : Unit) => [(3, .dat (vlst (List.map C_string r2))), (8, .dat (vlst (List.map C_string r2))), (9, .dat (vint (r2.length : Int))), (10, .dat (vint (k4 : Int)))]) (fun (k4 : Nat) (s : Unit) => []) () H ⟨rfl, rfl, rfl, rfl, trivial⟩ trivial (fun _ _ => rfl) ?_ ?_
  · rintro ⟨⟩ H
    replace H : gateref2_scope_E1 r2 = some r := H
    unfold gateref2_scope_E1 at H
    refine awp_seq ?_
    refine awp_plain hN rfl ?_
    refine seq_run0 (stp_lss rfl rfl) ?_
    refine awp_seq ?_
    refine awp_cond _ rfl (fun h => (lt_t h).elim) (fun h => ?_)
    refine awp_exit ?_
    refine awp_seq ?_
    refine awp_plain hN rfl ?_
    refine seq_run0 (stp_move (.dat _) rfl) ?_
    refine seq_run0 (t_len tyU26 rfl) ?_
    refine seq_run0 (stp_leq rfl rfl) ?_
    refine seq_run0 (stp_assign (.dat _) rfl) ?_
    refine awp_ret ?_
    cases H
    exact ⟨trivial, .inl rfl, trivial⟩
  · rintro k4 x7 ⟨⟩ q5 h8 h9 H hq5
    replace H : gateref2_scope_L1 r2 k4 x7 = some q5 := H
    unfold gateref2_scope_L1 at H
    refine awp_seq ?_
    refine awp_plain hN rfl ?_
    refine seq_run0 (stp_lss rfl rfl) ?_
    refine awp_seq ?_
    refine awp_cond _ rfl (fun h => ?_) (fun h => (lt_f h8 h).elim)
    refine awp_skip ?_
    refine awp_seq ?_
    refine awp_block ?_
    refine awp_seq ?_
    refine awp_plain hN rfl ?_
    refine seq_run0 (stp_move (.dat _) rfl) ?_
    refine seq_run0 (t_idx tyE26 (fun _ => rfl) rfl rfl h9) ?_
    refine seq_run0 (stp_loadE1 tyS9 rfl (map_at h9) rfl) ?_
    refine seq_run0 (stp_assign (.dat _) rfl) ?_
    refine seq_run0 (stp_assign (.dat _) rfl) ?_
    refine awp_seq ?_
    refine awp_plain hN rfl ?_
    refine seq_run0 (stp_move (.dat _) rfl) ?_
    obtain ⟨r10, h11, H⟩ := bnd H
    refine seq_run0 (stp_call (k_gateref2_Key x7 r10 h11) ⟨.inl rfl, trivial⟩) ?_
    refine seq_run0 (stp_not rfl) ?_
    refine seq_run0 (stp_move (.dat _) rfl) ?_
    refine seq_aT rfl rfl (fun hc => stp_move (.dat _) rfl) ?_
    refine seq_aT rfl rfl (fun hc => stp_sneq (cnd (c := (!r10)) hc) rfl) ?_
    refine seq_aT rfl rfl (fun hc => stp_move (.dat _) (cnd (c := (!r10)) hc)) ?_
    refine seq_bF rfl rfl (fun hc => stp_move (.dat _) rfl) ?_
    refine seq_bF rfl rfl (fun hc => stp_move (.dat _) rfl) ?_
    refine seq_bF rfl rfl (fun hc => t_len tyU26 (cnd (c := ((!r10) && !(decide (x7 ≠ [42])))) hc)) ?_
    refine seq_bF rfl rfl (fun hc => stp_wrap _ (cnd (c := ((!r10) && !(decide (x7 ≠ [42])))) hc) rfl (.inr (.inl ⟨rfl, rfl⟩))) ?_
    refine seq_bF rfl rfl (fun hc => stp_lss (cnd (c := ((!r10) && !(decide (x7 ≠ [42])))) hc) (cnd (c := ((!r10) && !(decide (x7 ≠ [42])))) hc)) ?_
    refine seq_aT rfl rfl (fun hc => stp_pick_or (cnd (c := (!r10)) hc) rfl (fun hb => (cnd (c := ((!r10) && !(decide (x7 ≠ [42])))) (andI hc (notI hb))))) ?_
    refine seq_run0 (stp_pick_and rfl (fun hb => (cnd (c := (!r10)) hb)) rfl) ?_
    refine awp_cond _ rfl (fun h12 => ?_) (fun h12 => ?_)
    · replace H := ift h12 H
      refine awp_seq ?_
      refine awp_plain hN rfl ?_
      refine seq_run0 (stp_assign (.dat _) rfl) ?_
      refine awp_ret ?_
      replace H := retl H hq5
      cases H
      exact ⟨trivial, .inl rfl, trivial⟩
    · replace H := iff_ h12 H
      refine awp_skip ?_
      refine awp_plain hN rfl ?_
      refine seq_run0 (stp_add rfl rfl (by omega)) ?_
      refine seq_run0 (stp_move (.dat _) rfl) ?_
      exact ⟨_, backl H, ⟨rfl, rfl, rfl, rfl, trivial⟩, trivial⟩
theorem k_gateref2_ScopesFault (l1 : (List Bs)) (r : (Int)) (H : m_gateref2_ScopesFault l1 = some r) : Fn Tryz.prog 9 [vlst (List.map C_string l1)] (resOf [vint r]) := by
  refine ⟨by kernel_rfl, pure_of (us := [vint r]) Tryz.func9 rfl rfl rfl rfl fun X hN => ?_⟩
  unfold m_gateref2_ScopesFault at H
  refine awp_seq ?_
  refine awp_plain hN rfl ?_
  refine seq_run0 (stp_assign (.dat _) rfl) ?_
  refine awp_seq ?_
  refine awp_seq ?_
  refine awp_plain hN rfl ?_
  refine seq_run0 (stp_move (.dat _) rfl) ?_
  refine seq_run0 (t_len tyU26 rfl) ?_
  refine seq_run0 (stp_gtr rfl rfl) ?_
  refine awp_cond _ rfl (fun h2 => ?_) (fun h2 => ?_)
  · replace H := ift h2 H
    refine awp_seq ?_
    refine awp_plain hN rfl ?_
    refine seq_run0 (stp_assign (.dat _) rfl) ?_
    refine awp_ret ?_
    cases H
    exact ⟨trivial, .inl rfl, trivial⟩
  · replace H := iff_ h2 H
    refine awp_skip ?_
    refine awp_seq ?_
    refine awp_seq ?_
    refine awp_plain hN rfl ?_
    refine seq_run0 (stp_move (.dat _) rfl) ?_
    refine seq_run0 (t_len tyU26 rfl) ?_
    refine seq_run0 (stp_move (.dat _) rfl) ?_
    refine awp_block ?_
    obtain ⟨h5, H⟩ := gif H
    refine awp_forL (fun (k3 : Nat) (s : Unit) => [(8, .dat (vlst (List.map C_string l1))), (9, .dat (vint (l1.length : Int))), (10, .dat (vint (k3 : Int)))]) (fun (k3 : Nat) (s : Unit) => []) () H ⟨rfl, rfl, rfl, trivial⟩ trivial (fun _ _ => rfl) ?_ ?_
    · rintro ⟨⟩ H
      replace H : gateref2_ScopesFault_E1 = some r := H
      unfold gateref2_ScopesFault_E1 at H
      refine awp_seq ?_
      refine awp_plain hN rfl ?_
      refine seq_run0 (stp_lss rfl rfl) ?_
      refine awp_seq ?_
      refine awp_cond _ rfl (fun h => (lt_t h).elim) (fun h => ?_)
      refine awp_exit ?_
      refine awp_seq ?_
      refine awp_plain hN rfl ?_
      refine seq_run0 (stp_assign (.dat _) rfl) ?_
      refine awp_ret ?_
      cases H
      exact ⟨trivial, .inl rfl, trivial⟩
    · rintro k3 x6 ⟨⟩ q4 h7 h8 H hq4
      replace H : gateref2_ScopesFault_L1 k3 x6 = some q4 := H
      unfold gateref2_ScopesFault_L1 at H
      refine awp_seq ?_
      refine awp_plain hN rfl ?_
      refine seq_run0 (stp_lss rfl rfl) ?_
      refine awp_seq ?_
      refine awp_cond _ rfl (fun h => ?_) (fun h => (lt_f h7 h).elim)
      refine awp_skip ?_
      refine awp_seq ?_
      refine awp_block ?_
      refine awp_seq ?_
      refine awp_plain hN rfl ?_
      refine seq_run0 (t_idx tyE26 (fun _ => rfl) rfl rfl h8) ?_
      refine seq_run0 (stp_loadE1 tyS9 rfl (map_at h8) rfl) ?_
      refine seq_run0 (stp_assign (.dat _) rfl) ?_
      refine awp_seq ?_
      refine awp_plain hN rfl ?_
      refine seq_run0 (stp_move (.dat _) rfl) ?_
      obtain ⟨r9, h10, H⟩ := bnd H
      refine seq_run0 (stp_call (k_gateref2_scope x6 r9 h10) ⟨.inl rfl, trivial⟩) ?_
      refine seq_run0 (stp_not rfl) ?_
      refine awp_cond _ rfl (fun h11 => ?_) (fun h11 => ?_)
      · replace H := ift h11 H
        refine awp_seq ?_
        refine awp_plain hN rfl ?_
        refine seq_run0 (stp_assign (.dat _) rfl) ?_
        refine awp_ret ?_
        replace H := retl H hq4
        cases H
        exact ⟨trivial, .inl rfl, trivial⟩
      · replace H := iff_ h11 H
        refine awp_skip ?_
        refine awp_plain hN rfl ?_
        refine seq_run0 (stp_add rfl rfl (by omega)) ?_
        refine seq_run0 (stp_move (.dat _) rfl) ?_
        exact ⟨_, backl H, ⟨rfl, rfl, rfl, trivial⟩, trivial⟩
theorem k_gateref2_ClaimsFault (v1 : S_api_Claims) (r : (Int)) (H : m_gateref2_ClaimsFault v1 = some r) : Fn Tryz.prog 50 [vagg (C_api_Claims v1)] (resOf [vint r]) := by
  refine ⟨by kernel_rfl, pure_of (us := [vint r]) Tryz.func50 rfl rfl rfl rfl fun X hN => ?_⟩
  unfold m_gateref2_ClaimsFault at H
  refine awp_seq ?_
  refine awp_plain hN rfl ?_
  refine seq_run2 (stp_boxA 1 rfl) rfl ?_
  refine seq_run0 (stp_assign (.dat _) rfl) ?_
  refine awp_seq ?_
  refine awp_block ?_
  refine awp_joinE (ι := Bool) (fun i => [(1, .ptr 1 0), (6, .dat (vbool i))]) (fun i => [(1, .box none 42 [.dat (vstr v1.Id), .dat (vstr v1.Subject), .dat (vstr v1.Issuer), .dat (vstr v1.Parent), .dat (vlst (List.map C_string v1.Audience)), .dat (vlst (List.map C_string v1.Scopes)), .dat (vint v1.From), .dat (vint v1.To)])]) (fun i => gateref2_ClaimsFault_J1 v1 i = some r) (fun i => rfl) ?_ ?_
  · skip
    refine awp_plain hN rfl ?_
    refine seq_run0 (stp_fldP tyF42_0 rfl) ?_
    refine seq_run1 (stp_load1 tyS9 rfl rfl) rfl ?_
    obtain ⟨r2, h3, H⟩ := bnd H
    refine seq_run0 (stp_call (k_gateref2_Key v1.Id r2 h3) ⟨.inl rfl, trivial⟩) ?_
    refine seq_run0 (stp_not rfl) ?_
    refine seq_run0 (stp_move (.dat _) rfl) ?_
    refine seq_split (j := 4) rfl rfl (fun h4 => ?_) (fun h4 => ?_) rfl
    · have h5 := un3 h4
      replace H := iff_ h5 H
      refine seq_g0 rfl rfl h4 (stp_fldP tyF42_1 rfl) ?_
      refine seq_g1 rfl rfl h4 (stp_load1 tyS9 rfl rfl) rfl ?_
      obtain ⟨r6, h7, H⟩ := bnd H
      refine seq_g0 rfl rfl h4 (stp_call (k_gateref2_Key v1.Subject r6 h7) ⟨.inl rfl, trivial⟩) ?_
      refine seq_g0 rfl rfl h4 (stp_not rfl) ?_
      refine seq_run0 (stp_pick_f rfl (bFF h5) rfl) ?_
      refine seq_run0 (stp_move (.dat _) rfl) ?_
      refine seq_split (j := 10) rfl rfl (fun h8 => ?_) (fun h8 => ?_) rfl
      · have h9 := un3 h8
        replace H := iff_ h9 H
        refine seq_g0 rfl rfl h8 (stp_fldP tyF42_2 rfl) ?_
        refine seq_g1 rfl rfl h8 (stp_load1 tyS9 rfl rfl) rfl ?_
        obtain ⟨r10, h11, H⟩ := bnd H
        refine seq_g0 rfl rfl h8 (stp_call (k_gateref2_Key v1.Issuer r10 h11) ⟨.inl rfl, trivial⟩) ?_
        refine seq_g0 rfl rfl h8 (stp_not rfl) ?_
        refine seq_run0 (stp_pick_f rfl (bFF h9) rfl) ?_
        refine seq_run0 (stp_move (.dat _) rfl) ?_
        refine seq_split (j := 16) rfl rfl (fun h12 => ?_) (fun h12 => ?_) rfl
        · have h13 := un3 h12
          replace H := iff_ h13 H
          refine seq_g0 rfl rfl h12 (stp_fldP tyF42_3 rfl) ?_
          refine seq_g1 rfl rfl h12 (stp_load1 tyS9 rfl rfl) rfl ?_
          refine seq_g0 rfl rfl h12 (stp_sneq rfl rfl) ?_
          refine seq_g0 rfl rfl h12 (stp_move (.dat _) rfl) ?_
          refine seq_split (j := 20) rfl rfl (fun h14 => ?_) (fun h14 => ?_) rfl
          · have h15 := un1 h14
            replace H := ift h15 H
            refine seq_g0 rfl rfl h14 (stp_fldP tyF42_3 rfl) ?_
            refine seq_g1 rfl rfl h14 (stp_load1 tyS9 rfl rfl) rfl ?_
            obtain ⟨r16, h17, H⟩ := bnd H
            refine seq_g0 rfl rfl h14 (stp_call (k_gateref2_Key v1.Parent r16 h17) ⟨.inl rfl, trivial⟩) ?_
            refine seq_g0 rfl rfl h14 (stp_not rfl) ?_
            refine seq_g0 rfl rfl h12 (stp_pick_t rfl (bTT h15) rfl) ?_
            refine seq_run0 (stp_pick_f rfl (bFF h13) rfl) ?_
            refine seq_run0 (stp_assign (.dat _) rfl) ?_
            exact ⟨!r16, H, ⟨rfl, rfl, trivial⟩, ⟨rfl, trivial⟩⟩
          · have h18 := un2 h14
            replace H := iff_ h18 H
            refine seq_skip rfl rfl h14 ?_
            refine seq_skip rfl rfl h14 ?_
            refine seq_skip rfl rfl h14 ?_
            refine seq_skip rfl rfl h14 ?_
            refine seq_g0 rfl rfl h12 (stp_pick_f rfl (bFF h18) rfl) ?_
            refine seq_run0 (stp_pick_f rfl (bFF h13) rfl) ?_
            refine seq_run0 (stp_assign (.dat _) rfl) ?_
            exact ⟨false, H, ⟨rfl, rfl, trivial⟩, ⟨rfl, trivial⟩⟩
        · have h19 := un4 h12
          replace H := ift h19 H
          refine seq_skip rfl rfl h12 ?_
          refine seq_skip rfl rfl h12 ?_
          refine seq_skip rfl rfl h12 ?_
          refine seq_skip rfl rfl h12 ?_
          refine seq_skipU rfl rfl ?_
          refine seq_skipU rfl rfl ?_
          refine seq_skipU rfl rfl ?_
          refine seq_skipU rfl rfl ?_
          refine seq_skip rfl rfl h12 ?_
          refine seq_run0 (stp_pick_t rfl (bTT h19) rfl) ?_
          refine seq_run0 (stp_assign (.dat _) rfl) ?_
          exact ⟨true, H, ⟨rfl, rfl, trivial⟩, ⟨rfl, trivial⟩⟩
      · have h20 := un4 h8
        replace H := ift h20 H
        refine seq_skip rfl rfl h8 ?_
        refine seq_skip rfl rfl h8 ?_
        refine seq_skip rfl rfl h8 ?_
        refine seq_skip rfl rfl h8 ?_
        refine seq_run0 (stp_pick_t rfl (bTT h20) rfl) ?_
        refine seq_run0 (stp_move (.dat _) rfl) ?_
        refine seq_skip rfl rfl rfl ?_
        refine seq_skip rfl rfl rfl ?_
        refine seq_skip rfl rfl rfl ?_
        refine seq_skip rfl rfl rfl ?_
        refine seq_skipU rfl rfl ?_
        refine seq_skipU rfl rfl ?_
        refine seq_skipU rfl rfl ?_
        refine seq_skipU rfl rfl ?_
        refine seq_skip rfl rfl rfl ?_
        refine seq_run0 (stp_pick_t rfl rfl rfl) ?_
        refine seq_run0 (stp_assign (.dat _) rfl) ?_
        exact ⟨true, H, ⟨rfl, rfl, trivial⟩, ⟨rfl, trivial⟩⟩
    · have h21 := un4 h4
      replace H := ift h21 H
      refine seq_skip rfl rfl h4 ?_
      refine seq_skip rfl rfl h4 ?_
      refine seq_skip rfl rfl h4 ?_
      refine seq_skip rfl rfl h4 ?_
      refine seq_run0 (stp_pick_t rfl (bTT h21) rfl) ?_
      refine seq_run0 (stp_move (.dat _) rfl) ?_
      refine seq_skip rfl rfl rfl ?_
      refine seq_skip rfl rfl rfl ?_
      refine seq_skip rfl rfl rfl ?_
      refine seq_skip rfl rfl rfl ?_
      refine seq_run0 (stp_pick_t rfl rfl rfl) ?_
      refine seq_run0 (stp_move (.dat _) rfl) ?_
      refine seq_skip rfl rfl rfl ?_
      refine seq_skip rfl rfl rfl ?_
      refine seq_skip rfl rfl rfl ?_
      refine seq_skip rfl rfl rfl ?_
      refine seq_skipU rfl rfl ?_
      refine seq_skipU rfl rfl ?_
      refine seq_skipU rfl rfl ?_
      refine seq_skipU rfl rfl ?_
      refine seq_skip rfl rfl rfl ?_
      refine seq_run0 (stp_pick_t rfl rfl rfl) ?_
      refine seq_run0 (stp_assign (.dat _) rfl) ?_
      exact ⟨true, H, ⟨rfl, rfl, trivial⟩, ⟨rfl, trivial⟩⟩
  · rintro v22 H
    replace H : gateref2_ClaimsFault_J1 v1 v22 = some r := H
    unfold gateref2_ClaimsFault_J1 at H
    refine awp_cond _ rfl (fun h23 => ?_) (fun h23 => ?_)
    · replace H := ift h23 H
      refine awp_seq ?_
      refine awp_plain hN rfl ?_
      refine seq_run0 (stp_assign (.dat _) rfl) ?_
      refine awp_ret ?_
      cases H
      exact ⟨trivial, .inl rfl, trivial⟩
    · replace H := iff_ h23 H
      refine awp_seq ?_
      refine awp_plain hN rfl ?_
      refine seq_run0 (stp_fldP tyF42_4 rfl) ?_
      refine seq_run1 (stp_load1 tyS26 rfl rfl) rfl ?_
      refine seq_run0 (t_len tyU26 rfl) ?_
      refine seq_run0 (stp_gtr rfl rfl) ?_
      refine seq_run0 (stp_assign (.dat _) rfl) ?_
      refine awp_cond _ rfl (fun h24 => ?_) (fun h24 => ?_)
      · replace H := ift h24 H
        refine awp_seq ?_
        refine awp_plain hN rfl ?_
        refine seq_run0 (stp_assign (.dat _) rfl) ?_
        refine awp_ret ?_
        cases H
        exact ⟨trivial, .inl rfl, trivial⟩
      · replace H := iff_ h24 H
        refine awp_skip ?_
        refine awp_seq ?_
        refine awp_seq ?_
        refine awp_plain hN rfl ?_
        refine seq_run0 (stp_fldP tyF42_4 rfl) ?_
        refine seq_run1 (stp_load1 tyS26 rfl rfl) rfl ?_
        refine seq_run0 (t_len tyU26 rfl) ?_
        refine seq_run0 (stp_move (.dat _) rfl) ?_
        refine awp_block ?_
        obtain ⟨h27, H⟩ := gif H
        refine awp_forL (fun (k25 : Nat) (s : Unit) => [(1, .ptr 1 0), (40, .dat (vlst (List.map C_string v1.Audience))), (41, .dat (vint (v1.Audience.length : Int))), (42, .dat (vint (k25 : Int)))]) (fun (k25 : Nat) (s : Unit) => [(1, .box none 42 [.dat (vstr v1.Id), .dat (vstr v1.Subject), .dat (vstr v1.Issuer), .dat (vstr v1.Parent), .dat (vlst (List.map C_string v1.Audience)), .dat (vlst (List.map C_string v1.Scopes)), .dat (vint v1.From), .dat (vint v1.To)])]) () H ⟨rfl, rfl, rfl, rfl, trivial⟩ ⟨rfl, trivial⟩ (fun _ _ => rfl) ?_ ?_
        · rintro ⟨⟩ H
          replace H : gateref2_ClaimsFault_E2 v1 = some r := H
          unfold gateref2_ClaimsFault_E2 at H
          refine awp_seq ?_
          refine awp_plain hN rfl ?_
          refine seq_run0 (stp_lss rfl rfl) ?_
          refine awp_seq ?_
          refine awp_cond _ rfl (fun h => (lt_t h).elim) (fun h => ?_)
          refine awp_exit ?_
          refine awp_seq ?_
          refine awp_seq ?_
          refine awp_plain hN rfl ?_
          refine seq_run0 (stp_fldP tyF42_5 rfl) ?_
          refine seq_run1 (stp_load1 tyS26 rfl rfl) rfl ?_
          obtain ⟨r29, h30, H⟩ := bnd H
          refine seq_run0 (stp_call (k_gateref2_ScopesFault v1.Scopes r29 h30) ⟨.inl rfl, trivial⟩) ?_
          refine seq_run0 (stp_assign (.dat _) rfl) ?_
          refine awp_seq ?_
          refine awp_plain hN rfl ?_
          refine seq_run0 (stp_move (.dat _) rfl) ?_
          refine seq_run0 (stp_neq rfl rfl) ?_
          refine awp_cond _ rfl (fun h31 => ?_) (fun h31 => ?_)
          · replace H := ift h31 H
            refine awp_seq ?_
            refine awp_plain hN rfl ?_
            refine seq_run0 (stp_move (.dat _) rfl) ?_
            refine seq_run0 (stp_assign (.dat _) rfl) ?_
            refine awp_ret ?_
            cases H
            exact ⟨trivial, .inl rfl, trivial⟩
          · replace H := iff_ h31 H
            refine awp_skip ?_
            refine awp_seq ?_
            refine awp_seq ?_
            refine awp_draw mixed hN rfl rfl ?_
            refine seq_run0 (stp_fldP tyF42_5 rfl) ?_
            refine seq_run1 (stp_load1 tyS26 rfl rfl) rfl ?_
            obtain ⟨r32, h33, H⟩ := bnd H
            refine seq_run0 (stp_call (k_gateref2_LeastOf v1.Scopes r32 h33) ⟨.inl rfl, trivial⟩) ?_
            refine seq_run0 (stp_fldP tyF42_5 rfl) ?_
            refine seq_run1 (stp_load1 tyS26 rfl rfl) rfl ?_
            obtain ⟨r34, h35, H⟩ := bnd H
            refine seq_run0 (stp_call (k_slices_Equal_L_string_string_ r32 v1.Scopes r34 h35) ⟨.inl rfl, .inl rfl, trivial⟩) ?_
            refine seq_run0 (stp_not rfl) ?_
            refine ⟨rfl, ?_⟩
            refine awp_cond _ rfl (fun h36 => ?_) (fun h36 => ?_)
            · replace H := ift h36 H
              refine awp_seq ?_
              refine awp_plain hN rfl ?_
              refine seq_run0 (stp_assign (.dat _) rfl) ?_
              refine awp_ret ?_
              cases H
              exact ⟨trivial, .inl rfl, trivial⟩
            · replace H := iff_ h36 H
              refine awp_skip ?_
              refine awp_seq ?_
              refine awp_seq ?_
              refine awp_plain hN rfl ?_
              refine seq_run0 (stp_fldP tyF42_6 rfl) ?_
              refine seq_run1 (stp_load1 tyS3 rfl rfl) rfl ?_
              refine seq_run0 (stp_lss rfl rfl) ?_
              refine seq_run0 (stp_move (.dat _) rfl) ?_
              refine seq_aF rfl rfl (fun hc => stp_fldP tyF42_6 rfl) ?_
              refine seq_arF rfl rfl (fun hc => stp_load1 tyS3 (cnd (c := (!(decide (v1.From < 0)))) hc) rfl) rfl anti_p ?_
              refine seq_aF rfl rfl (fun hc => stp_fldP tyF42_7 rfl) ?_
              refine seq_arF rfl rfl (fun hc => stp_load1 tyS3 (cnd (c := (!(decide (v1.From < 0)))) hc) rfl) rfl anti_p ?_
              refine seq_aF rfl rfl (fun hc => stp_geq (cnd (c := (!(decide (v1.From < 0)))) hc) (cnd (c := (!(decide (v1.From < 0)))) hc)) ?_
              refine seq_run0 (stp_pick_or rfl rfl (fun hb => (cnd (c := (!(decide (v1.From < 0)))) (notI hb)))) ?_
              refine seq_run0 (stp_move (.dat _) rfl) ?_
              refine seq_aF rfl rfl (fun hc => stp_fldP tyF42_7 rfl) ?_
              refine seq_arF rfl rfl (fun hc => stp_load1 tyS3 (cnd (c := (!((decide (v1.From < 0)) || (decide (v1.To ≤ v1.From))))) hc) rfl) rfl anti_p ?_
              refine seq_aF rfl rfl (fun hc => stp_gtr (cnd (c := (!((decide (v1.From < 0)) || (decide (v1.To ≤ v1.From))))) hc) rfl) ?_
              refine seq_run0 (stp_pick_or rfl rfl (fun hb => (cnd (c := (!((decide (v1.From < 0)) || (decide (v1.To ≤ v1.From))))) (notI hb)))) ?_
              refine awp_cond _ rfl (fun h37 => ?_) (fun h37 => ?_)
              · replace H := ift h37 H
                refine awp_seq ?_
                refine awp_plain hN rfl ?_
                refine seq_run0 (stp_assign (.dat _) rfl) ?_
                refine awp_ret ?_
                cases H
                exact ⟨trivial, .inl rfl, trivial⟩
              · replace H := iff_ h37 H
                refine awp_skip ?_
                refine awp_seq ?_
                refine awp_plain hN rfl ?_
                refine seq_run0 (stp_assign (.dat _) rfl) ?_
                refine awp_ret ?_
                cases H
                exact ⟨trivial, .inl rfl, trivial⟩
        · rintro k25 x28 ⟨⟩ q26 h38 h39 H hq26
          replace H : gateref2_ClaimsFault_L2 v1 k25 x28 = some q26 := H
          unfold gateref2_ClaimsFault_L2 at H
          refine awp_seq ?_
          refine awp_plain hN rfl ?_
          refine seq_run0 (stp_lss rfl rfl) ?_
          refine awp_seq ?_
          refine awp_cond _ rfl (fun h => ?_) (fun h => (lt_f h38 h).elim)
          refine awp_skip ?_
          refine awp_seq ?_
          refine awp_block ?_
          refine awp_seq ?_
          refine awp_plain hN rfl ?_
          refine seq_run0 (stp_move (.dat _) rfl) ?_
          refine seq_run0 (t_idx tyE26 (fun _ => rfl) rfl rfl h39) ?_
          refine seq_run0 (stp_loadE1 tyS9 rfl (map_at h39) rfl) ?_
          refine seq_run0 (stp_assign (.dat _) rfl) ?_
          refine seq_run0 (stp_assign (.dat _) rfl) ?_
          refine awp_seq ?_
          refine awp_seq ?_
          refine awp_plain hN rfl ?_
          refine seq_run0 (stp_move (.dat _) rfl) ?_
          obtain ⟨r40, h41, H⟩ := bnd H
          refine seq_run0 (stp_call (k_gateref2_Key x28 r40 h41) ⟨.inl rfl, trivial⟩) ?_
          refine seq_run0 (stp_not rfl) ?_
          refine awp_cond _ rfl (fun h42 => ?_) (fun h42 => ?_)
          · replace H := ift h42 H
            refine awp_seq ?_
            refine awp_plain hN rfl ?_
            refine seq_run0 (stp_assign (.dat _) rfl) ?_
            refine awp_ret ?_
            replace H := retl H hq26
            cases H
            exact ⟨trivial, .inl rfl, trivial⟩
          · replace H := iff_ h42 H
            refine awp_skip ?_
            refine awp_joinE (ι := Bool) (fun i => [(1, .ptr 1 0), (40, .dat (vlst (List.map C_string v1.Audience))), (41, .dat (vint (v1.Audience.length : Int))), (42, .dat (vint (k25 : Int))), (61, .dat (vbool i))]) (fun i => [(1, .box none 42 [.dat (vstr v1.Id), .dat (vstr v1.Subject), .dat (vstr v1.Issuer), .dat (vstr v1.Parent), .dat (vlst (List.map C_string v1.Audience)), .dat (vlst (List.map C_string v1.Scopes)), .dat (vint v1.From), .dat (vint v1.To)])]) (fun i => gateref2_ClaimsFault_J3 i = some q26) (fun i => rfl) ?_ ?_
            · skip
              refine awp_plain hN rfl ?_
              refine seq_run0 (stp_move (.dat _) rfl) ?_
              refine seq_run0 (stp_gtr rfl rfl) ?_
              refine seq_run0 (stp_move (.dat _) rfl) ?_
              refine seq_split (j := 2) rfl rfl (fun h43 => ?_) (fun h43 => ?_) rfl
              · have h44 := un1 h43
                replace H := ift h44 H
                refine seq_g0 rfl rfl h43 (stp_move (.dat _) rfl) ?_
                refine seq_g0 rfl rfl h43 (stp_fldP tyF42_4 rfl) ?_
                refine seq_g1 rfl rfl h43 (stp_load1 tyS26 rfl rfl) rfl ?_
                refine seq_g0 rfl rfl h43 (stp_move (.dat _) rfl) ?_
                refine seq_g0 rfl rfl h43 (stp_sub rfl rfl (by omega)) ?_
                obtain ⟨x45, h46, H⟩ := bnd H
                refine seq_g0 rfl rfl h43 (t_idxI tyE26 (fun _ => rfl) rfl rfl h46) ?_
                refine seq_g0 rfl rfl h43 (stp_loadE1 tyS9 rfl (map_at (at_some h46).2) rfl) ?_
                refine seq_g0 rfl rfl h43 (stp_sleq rfl rfl) ?_
                refine seq_run0 (stp_pick_t rfl (bTT h44) rfl) ?_
                exact ⟨(Op.bytesLess x28 x45 || x28 == x45), H, ⟨rfl, rfl, rfl, rfl, rfl, trivial⟩, ⟨rfl, trivial⟩⟩
              · have h47 := un2 h43
                replace H := iff_ h47 H
                refine seq_skip rfl rfl h43 ?_
                refine seq_skip rfl rfl h43 ?_
                refine seq_skip rfl rfl h43 ?_
                refine seq_skip rfl rfl h43 ?_
                refine seq_skip rfl rfl h43 ?_
                refine seq_skip rfl rfl h43 ?_
                refine seq_skip rfl rfl h43 ?_
                refine seq_skip rfl rfl h43 ?_
                refine seq_run0 (stp_pick_f rfl (bFF h47) rfl) ?_
                exact ⟨false, H, ⟨rfl, rfl, rfl, rfl, rfl, trivial⟩, ⟨rfl, trivial⟩⟩
            · rintro v48 H
              replace H : gateref2_ClaimsFault_J3 v48 = some q26 := H
              unfold gateref2_ClaimsFault_J3 at H
              refine awp_cond _ rfl (fun h49 => ?_) (fun h49 => ?_)
              · replace H := ift h49 H
                refine awp_seq ?_
                refine awp_plain hN rfl ?_
                refine seq_run0 (stp_assign (.dat _) rfl) ?_
                refine awp_ret ?_
                replace H := retl H hq26
                cases H
                exact ⟨trivial, .inl rfl, trivial⟩
              · replace H := iff_ h49 H
                refine awp_skip ?_
                refine awp_plain hN rfl ?_
                refine seq_run0 (stp_add rfl rfl (by omega)) ?_
                refine seq_run0 (stp_move (.dat _) rfl) ?_
                exact ⟨_, backl H, ⟨rfl, rfl, rfl, rfl, trivial⟩, ⟨rfl, trivial⟩⟩
theorem k_gateref2_covered_1 (h1 : Bs) (c2 : Bs) (r : (Bool)) (H : m_gateref2_covered_1 h1 c2 = some r) : Fn Tryz.prog 67 [vstr h1, vcell [[vstr c2]] 0 0] (resOf [vbool r]) := by
  refine ⟨by kernel_rfl, pure_of (us := [vbool r]) Tryz.func67 rfl rfl rfl rfl fun X hN => ?_⟩
  unfold m_gateref2_covered_1 at H
  refine awp_seq ?_
  refine awp_plain hN rfl ?_
  refine seq_run0 (stp_assign (.dat _) rfl) ?_
  refine awp_seq ?_
  refine awp_plain hN rfl ?_
  refine seq_run0 (stp_move (.dat _) rfl) ?_
  refine seq_run0 (stp_loadE1 tyS9 rfl rfl rfl) ?_
  obtain ⟨r3, h4, H⟩ := bnd H
  refine seq_run0 (stp_call (k_gateref2_over h1 c2 r3 h4) ⟨.inl rfl, .inl rfl, trivial⟩) ?_
  refine seq_run0 (stp_assign (.dat _) rfl) ?_
  refine awp_ret ?_
  cases H
  exact ⟨trivial, .inl rfl, trivial⟩
theorem k_gateref2_covered (v1 : (List Bs)) (s2 : Bs) (r : (Bool)) (H : m_gateref2_covered v1 s2 = some r) : Fn Tryz.prog 38 [vlst (List.map C_string v1), vstr s2] (resOf [vbool r]) := by
  refine ⟨by kernel_rfl, pure_of (us := [vbool r]) Tryz.func38 rfl rfl rfl rfl fun X hN => ?_⟩
  unfold m_gateref2_covered at H
  refine awp_seq ?_
  refine awp_plain hN rfl ?_
  refine seq_run2 (stp_box1 1 rfl rfl) rfl ?_
  refine seq_run0 (stp_assign (.dat _) rfl) ?_
  refine awp_seq ?_
  refine awp_frzB 1 [vstr s2] rfl rfl ?_
  refine awp_plain hN rfl ?_
  refine seq_run0 (stp_move (.dat _) rfl) ?_
  refine seq_run0 (stp_mkfn (us := [_]) ⟨rfl, trivial⟩) ?_
  obtain ⟨r3, h4, H⟩ := bnd H
  refine seq_run0 (stp_call (k_slices_ContainsFunc_L_string_string_ v1 (fun (a0 : Bs) => m_gateref2_covered_1 a0 s2) 67 [vcell [[vstr s2]] 0 0] (fun a0 r h => k_gateref2_covered_1 a0 s2 r h) r3 h4) ⟨.inl rfl, .inl rfl, trivial⟩) ?_
  refine seq_run0 (stp_assign (.dat _) rfl) ?_
  refine awp_ret ?_
  cases H
  exact ⟨trivial, .inl rfl, trivial⟩
theorem k_gateref2_CoversOf_1 (w1 : Bs) (c2 : (List Bs)) (r : (Bool)) (H : m_gateref2_CoversOf_1 w1 c2 = some r) : Fn Tryz.prog 37 [vstr w1, vcell [[vlst (List.map C_string c2)]] 0 0] (resOf [vbool r]) := by
  refine ⟨by kernel_rfl, pure_of (us := [vbool r]) Tryz.func37 rfl rfl rfl rfl fun X hN => ?_⟩
  unfold m_gateref2_CoversOf_1 at H
  refine awp_seq ?_
  refine awp_plain hN rfl ?_
  refine seq_run0 (stp_assign (.dat _) rfl) ?_
  refine awp_seq ?_
  refine awp_plain hN rfl ?_
  refine seq_run0 (stp_loadE1 tyS26 rfl rfl rfl) ?_
  refine seq_run0 (stp_move (.dat _) rfl) ?_
  obtain ⟨r3, h4, H⟩ := bnd H
  refine seq_run0 (stp_call (k_gateref2_covered c2 w1 r3 h4) ⟨.inl rfl, .inl rfl, trivial⟩) ?_
  refine seq_run0 (stp_not rfl) ?_
  refine seq_run0 (stp_assign (.dat _) rfl) ?_
  refine awp_ret ?_
  cases H
  exact ⟨trivial, .inl rfl, trivial⟩
theorem k_gateref2_CoversOf (v1 : (List Bs)) (want2 : (List Bs)) (r : (Bool)) (H : m_gateref2_CoversOf v1 want2 = some r) : Fn Tryz.prog 12 [vlst (List.map C_string v1), vlst (List.map C_string want2)] (resOf [vbool r]) := by
  refine ⟨by kernel_rfl, pure_of (us := [vbool r]) Tryz.func12 rfl rfl rfl rfl fun X hN => ?_⟩
  unfold m_gateref2_CoversOf at H
  refine awp_seq ?_
  refine awp_plain hN rfl ?_
  refine seq_run2 (stp_box1 1 rfl rfl) rfl ?_
  refine seq_run0 (stp_assign (.dat _) rfl) ?_
  refine awp_seq ?_
  refine awp_frzB 1 [vlst (List.map C_string v1)] rfl rfl ?_
  refine awp_plain hN rfl ?_
  refine seq_run0 (stp_move (.dat _) rfl) ?_
  refine seq_run0 (stp_mkfn (us := [_]) ⟨rfl, trivial⟩) ?_
  obtain ⟨r3, h4, H⟩ := bnd H
  refine seq_run0 (stp_call (k_slices_ContainsFunc_L_string_string_ want2 (fun (a0 : Bs) => m_gateref2_CoversOf_1 a0 v1) 37 [vcell [[vlst (List.map C_string v1)]] 0 0] (fun a0 r h => k_gateref2_CoversOf_1 a0 v1 r h) r3 h4) ⟨.inl rfl, .inl rfl, trivial⟩) ?_
  refine seq_run0 (stp_not rfl) ?_
  refine seq_run0 (stp_assign (.dat _) rfl) ?_
  refine awp_ret ?_
  cases H
  exact ⟨trivial, .inl rfl, trivial⟩
theorem k_gateref2_DelegateOf (v1 : S_api_Claims) (v2 : Bs) (v3 : Bs) (v4 : (List Bs)) (v5 : S_api_Window) (r : (S_api_Claims × Int)) (H : m_gateref2_DelegateOf v1 v2 v3 v4 v5 = some r) : Fn Tryz.prog 22 [vagg (C_api_Claims v1), vstr v2, vstr v3, vlst (List.map C_string v4), vagg (C_api_Window v5)] (resOf [vagg (C_api_Claims r.1), vint r.2]) := by
  refine ⟨by kernel_rfl, pure_of (us := [vagg (C_api_Claims r.1), vint r.2]) Tryz.func22 rfl rfl rfl rfl fun X hN => ?_⟩
  unfold m_gateref2_DelegateOf at H
  refine awp_seq ?_
  refine awp_plain hN rfl ?_
  refine seq_run2 (stp_boxA 1 rfl) rfl ?_
  refine seq_run2 (stp_boxA 2 rfl) rfl ?_
  refine seq_run2 (stp_alloc 3 tyZ42 rfl) rfl ?_
  refine seq_run0 (stp_assign (.dat _) rfl) ?_
  refine awp_seq ?_
  refine awp_seq ?_
  refine awp_plain hN rfl ?_
  refine seq_run1 (stp_loadA tyS42 rfl rfl rfl) rfl ?_
  obtain ⟨r6, h7, H⟩ := bnd H
  refine seq_run0 (stp_call (k_gateref2_ClaimsFault v1 r6 h7) ⟨.inl rfl, trivial⟩) ?_
  refine seq_run0 (stp_move (.dat _) rfl) ?_
  obtain ⟨r8, h9, H⟩ := bnd H
  refine seq_run0 (stp_call (k_gateref2_ScopesFault v4 r8 h9) ⟨.inl rfl, trivial⟩) ?_
  refine seq_run0 (stp_dat (u' := vlst (List.map C_api_Errno [r6, r8])) (stp_lit [[_], [_]] tyL60 ⟨rfl, .inl ⟨_, rfl, rfl, rfl⟩, rfl, rfl, .inl ⟨_, rfl, rfl, rfl⟩, rfl, trivial⟩ rfl rfl) rfl) ?_
  refine seq_run0 (t_len tyU60 rfl) ?_
  refine seq_run0 (stp_move (.dat _) rfl) ?_
  refine awp_block ?_
  obtain ⟨h12, H⟩ := gif H
  refine awp_forL (fun (k10 : Nat) (s : Unit) => [(1, .dat (vstr v2)), (2, .dat (vstr v3)), (3, .dat (vlst (List.map C_string v4))), (5, .ptr 1 0), (9, .ptr 2 0), (10, .ptr 3 0), (20, .dat (vlst (List.map C_api_Errno [r6, r8]))), (21, .dat (vint ([r6, r8].length : Int))), (22, .dat (vint (k10 : Int)))]) (fun (k10 : Nat) (s : Unit) => [(1, .box none 42 [.dat (vstr v1.Id), .dat (vstr v1.Subject), .dat (vstr v1.Issuer), .dat (vstr v1.Parent), .dat (vlst (List.map C_string v1.Audience)), .dat (vlst (List.map C_string v1.Scopes)), .dat (vint v1.From), .dat (vint v1.To)]), (2, .box none 48 [.dat (vint v5.From), .dat (vint v5.To)]), (3, .box none 42 [.dat (vstr []), .dat (vstr []), .dat (vstr []), .dat (vstr []), .dat (vnil), .dat (vnil), .dat (vint 0), .dat (vint 0)])]) () H ⟨rfl, rfl, rfl, rfl, rfl, rfl, rfl, rfl, rfl, trivial⟩ ⟨rfl, rfl, rfl, trivial⟩ (fun _ _ => rfl) ?_ ?_
  · rintro ⟨⟩ H
    replace H : gateref2_DelegateOf_E1 v1 v2 v3 v4 v5 = some r := H
    unfold gateref2_DelegateOf_E1 at H
    refine awp_seq ?_
    refine awp_plain hN rfl ?_
    refine seq_run0 (stp_lss rfl rfl) ?_
    refine awp_seq ?_
    refine awp_cond _ rfl (fun h => (lt_t h).elim) (fun h => ?_)
    refine awp_exit ?_
    refine awp_seq ?_
    refine awp_block ?_
    refine awp_joinE (ι := Bool) (fun i => [(1, .dat (vstr v2)), (2, .dat (vstr v3)), (3, .dat (vlst (List.map C_string v4))), (5, .ptr 1 0), (9, .ptr 2 0), (10, .ptr 3 0), (31, .dat (vbool i))]) (fun i => [(1, .box none 42 [.dat (vstr v1.Id), .dat (vstr v1.Subject), .dat (vstr v1.Issuer), .dat (vstr v1.Parent), .dat (vlst (List.map C_string v1.Audience)), .dat (vlst (List.map C_string v1.Scopes)), .dat (vint v1.From), .dat (vint v1.To)]), (2, .box none 48 [.dat (vint v5.From), .dat (vint v5.To)]), (3, .box none 42 [.dat (vstr []), .dat (vstr []), .dat (vstr []), .dat (vstr []), .dat (vnil), .dat (vnil), .dat (vint 0), .dat (vint 0)])]) (fun i => gateref2_DelegateOf_J2 v1 v2 v3 v4 v5 i = some r) (fun i => rfl) ?_ ?_
    · skip
      refine awp_plain hN rfl ?_
      refine seq_run0 (stp_move (.dat _) rfl) ?_
      obtain ⟨r14, h15, H⟩ := bnd H
      refine seq_run0 (stp_call (k_gateref2_Key v2 r14 h15) ⟨.inl rfl, trivial⟩) ?_
      refine seq_run0 (stp_not rfl) ?_
      refine seq_run0 (stp_move (.dat _) rfl) ?_
      refine seq_split (j := 3) rfl rfl (fun h16 => ?_) (fun h16 => ?_) rfl
      · have h17 := un3 h16
        replace H := iff_ h17 H
        refine seq_g0 rfl rfl h16 (stp_move (.dat _) rfl) ?_
        obtain ⟨r18, h19, H⟩ := bnd H
        refine seq_g0 rfl rfl h16 (stp_call (k_gateref2_Key v3 r18 h19) ⟨.inl rfl, trivial⟩) ?_
        refine seq_g0 rfl rfl h16 (stp_not rfl) ?_
        refine seq_run0 (stp_pick_f rfl (bFF h17) rfl) ?_
        refine seq_run0 (stp_assign (.dat _) rfl) ?_
        exact ⟨!r18, H, ⟨rfl, rfl, rfl, rfl, rfl, rfl, rfl, trivial⟩, ⟨rfl, rfl, rfl, trivial⟩⟩
      · have h20 := un4 h16
        replace H := ift h20 H
        refine seq_skip rfl rfl h16 ?_
        refine seq_skip rfl rfl h16 ?_
        refine seq_skip rfl rfl h16 ?_
        refine seq_run0 (stp_pick_t rfl (bTT h20) rfl) ?_
        refine seq_run0 (stp_assign (.dat _) rfl) ?_
        exact ⟨true, H, ⟨rfl, rfl, rfl, rfl, rfl, rfl, rfl, trivial⟩, ⟨rfl, rfl, rfl, trivial⟩⟩
    · rintro v21 H
      replace H : gateref2_DelegateOf_J2 v1 v2 v3 v4 v5 v21 = some r := H
      unfold gateref2_DelegateOf_J2 at H
      refine awp_cond _ rfl (fun h22 => ?_) (fun h22 => ?_)
      · replace H := ift h22 H
        refine awp_seq ?_
        refine awp_plain hN rfl ?_
        refine seq_run0 (stp_wk (u' := vagg (C_api_Claims (S_api_Claims.mk [] [] [] [] [] [] 0 0))) (wk_agg (by exact ⟨wk_rfl, wk_rfl, wk_rfl, wk_rfl, wk_nil, wk_nil, wk_rfl, wk_rfl, trivial⟩)) (stp_build [] tyZ42 tyP42 rfl trivial)) ?_
        refine seq_run2 (stp_storeW tyS42 rfl rfl rfl rfl) rfl ?_
        refine seq_run0 (stp_assign (.dat _) rfl) ?_
        refine awp_ret ?_
        cases H
        exact ⟨trivial, .inl ⟨_, _, _, C_api_Claims (S_api_Claims.mk [] [] [] [] [] [] 0 0), rfl, rfl, rfl, rfl, tyS42⟩, .inl rfl, trivial⟩
      · replace H := iff_ h22 H
        refine awp_seq ?_
        refine awp_plain hN rfl ?_
        refine seq_run0 (stp_move (.dat _) rfl) ?_
        refine seq_run0 (stp_fldP tyF42_0 rfl) ?_
        refine seq_run1 (stp_load1 tyS9 rfl rfl) rfl ?_
        refine seq_run0 (stp_seql rfl rfl) ?_
        refine seq_run0 (stp_assign (.dat _) rfl) ?_
        refine awp_cond _ rfl (fun h23 => ?_) (fun h23 => ?_)
        · replace H := ift h23 H
          refine awp_seq ?_
          refine awp_plain hN rfl ?_
          refine seq_run0 (stp_wk (u' := vagg (C_api_Claims (S_api_Claims.mk [] [] [] [] [] [] 0 0))) (wk_agg (by exact ⟨wk_rfl, wk_rfl, wk_rfl, wk_rfl, wk_nil, wk_nil, wk_rfl, wk_rfl, trivial⟩)) (stp_build [] tyZ42 tyP42 rfl trivial)) ?_
          refine seq_run2 (stp_storeW tyS42 rfl rfl rfl rfl) rfl ?_
          refine seq_run0 (stp_assign (.dat _) rfl) ?_
          refine awp_ret ?_
          cases H
          exact ⟨trivial, .inl ⟨_, _, _, C_api_Claims (S_api_Claims.mk [] [] [] [] [] [] 0 0), rfl, rfl, rfl, rfl, tyS42⟩, .inl rfl, trivial⟩
        · replace H := iff_ h23 H
          refine awp_seq ?_
          refine awp_plain hN rfl ?_
          refine seq_run0 (stp_fldP tyF42_5 rfl) ?_
          refine seq_run1 (stp_load1 tyS26 rfl rfl) rfl ?_
          refine seq_run0 (stp_move (.dat _) rfl) ?_
          obtain ⟨r24, h25, H⟩ := bnd H
          refine seq_run0 (stp_call (k_gateref2_CoversOf v1.Scopes v4 r24 h25) ⟨.inl rfl, .inl rfl, trivial⟩) ?_
          refine seq_run0 (stp_not rfl) ?_
          refine seq_run0 (stp_move (.dat _) rfl) ?_
          refine seq_aF rfl rfl (fun hc => stp_fldP tyF48_0 rfl) ?_
          refine seq_arF rfl rfl (fun hc => stp_load1 tyS3 (cnd (c := (!(!r24))) hc) rfl) rfl anti_p ?_
          refine seq_aF rfl rfl (fun hc => stp_fldP tyF42_6 rfl) ?_
          refine seq_arF rfl rfl (fun hc => stp_load1 tyS3 (cnd (c := (!(!r24))) hc) rfl) rfl anti_p ?_
          refine seq_aF rfl rfl (fun hc => stp_lss (cnd (c := (!(!r24))) hc) (cnd (c := (!(!r24))) hc)) ?_
          refine seq_run0 (stp_pick_or rfl rfl (fun hb => (cnd (c := (!(!r24))) (notI hb)))) ?_
          refine seq_run0 (stp_move (.dat _) rfl) ?_
          refine seq_aF rfl rfl (fun hc => stp_fldP tyF48_1 rfl) ?_
          refine seq_arF rfl rfl (fun hc => stp_load1 tyS3 (cnd (c := (!((!r24) || (decide (v5.From < v1.From))))) hc) rfl) rfl anti_p ?_
          refine seq_aF rfl rfl (fun hc => stp_fldP tyF42_7 rfl) ?_
          refine seq_arF rfl rfl (fun hc => stp_load1 tyS3 (cnd (c := (!((!r24) || (decide (v5.From < v1.From))))) hc) rfl) rfl anti_p ?_
          refine seq_aF rfl rfl (fun hc => stp_gtr (cnd (c := (!((!r24) || (decide (v5.From < v1.From))))) hc) (cnd (c := (!((!r24) || (decide (v5.From < v1.From))))) hc)) ?_
          refine seq_run0 (stp_pick_or rfl rfl (fun hb => (cnd (c := (!((!r24) || (decide (v5.From < v1.From))))) (notI hb)))) ?_
          refine seq_run0 (stp_assign (.dat _) rfl) ?_
          refine awp_cond _ rfl (fun h26 => ?_) (fun h26 => ?_)
          · replace H := ift h26 H
            refine awp_seq ?_
            refine awp_plain hN rfl ?_
            refine seq_run0 (stp_wk (u' := vagg (C_api_Claims (S_api_Claims.mk [] [] [] [] [] [] 0 0))) (wk_agg (by exact ⟨wk_rfl, wk_rfl, wk_rfl, wk_rfl, wk_nil, wk_nil, wk_rfl, wk_rfl, trivial⟩)) (stp_build [] tyZ42 tyP42 rfl trivial)) ?_
            refine seq_run2 (stp_storeW tyS42 rfl rfl rfl rfl) rfl ?_
            refine seq_run0 (stp_assign (.dat _) rfl) ?_
            refine awp_ret ?_
            cases H
            exact ⟨trivial, .inl ⟨_, _, _, C_api_Claims (S_api_Claims.mk [] [] [] [] [] [] 0 0), rfl, rfl, rfl, rfl, tyS42⟩, .inl rfl, trivial⟩
          · replace H := iff_ h26 H
            refine awp_skip ?_
            refine awp_seq ?_
            refine awp_draw mixed hN rfl rfl ?_
            refine seq_run0 (stp_move (.dat _) rfl) ?_
            refine seq_run0 (stp_move (.dat _) rfl) ?_
            refine seq_run0 (stp_fldP tyF42_2 rfl) ?_
            refine seq_run1 (stp_load1 tyS9 rfl rfl) rfl ?_
            refine seq_run0 (stp_fldP tyF42_0 rfl) ?_
            refine seq_run1 (stp_load1 tyS9 rfl rfl) rfl ?_
            refine seq_run0 (stp_fldP tyF42_4 rfl) ?_
            refine seq_run1 (stp_load1 tyS26 rfl rfl) rfl ?_
            obtain ⟨r27, h28, H⟩ := bnd H
            refine seq_run0 (stp_call (k_slices_Clone_L_string_string_ v1.Audience r27 h28) ⟨.inl rfl, trivial⟩) ?_
            refine seq_run0 (stp_move (.dat _) rfl) ?_
            obtain ⟨r29, h30, H⟩ := bnd H
            refine seq_run0 (stp_call (k_gateref2_LeastOf v4 r29 h30) ⟨.inl rfl, trivial⟩) ?_
            refine seq_run0 (stp_fldP tyF48_0 rfl) ?_
            refine seq_run1 (stp_load1 tyS3 rfl rfl) rfl ?_
            refine seq_run0 (stp_fldP tyF48_1 rfl) ?_
            refine seq_run1 (stp_load1 tyS3 rfl rfl) rfl ?_
            refine seq_run0 (stp_dat (u' := vagg (C_api_Claims (S_api_Claims.mk v2 v3 v1.Issuer v1.Id r27 r29 v5.From v5.To))) (stp_build [(0, [vstr v2]), (1, [vstr v3]), (2, [vstr v1.Issuer]), (3, [vstr v1.Id]), (4, [vlst (List.map C_string r27)]), (5, [vlst (List.map C_string r29)]), (6, [vint v5.From]), (7, [vint v5.To])] tyZ42 tyP42 rfl ⟨rfl, .inl ⟨_, rfl, rfl, rfl⟩, rfl, rfl, .inl ⟨_, rfl, rfl, rfl⟩, rfl, rfl, .inl ⟨_, rfl, rfl, rfl⟩, rfl, rfl, .inl ⟨_, rfl, rfl, rfl⟩, rfl, rfl, .inl ⟨_, rfl, rfl, rfl⟩, rfl, rfl, .inl ⟨_, rfl, rfl, rfl⟩, rfl, rfl, .inl ⟨_, rfl, rfl, rfl⟩, rfl, rfl, .inl ⟨_, rfl, rfl, rfl⟩, rfl, trivial⟩) rfl) ?_
            refine seq_run2 (stp_alloc 4 tyZ42 rfl) rfl ?_
            refine seq_run2 (stp_storeW tyS42 rfl rfl rfl rfl) rfl ?_
            refine ⟨rfl, ?_⟩
            refine awp_seq ?_
            refine awp_seq ?_
            refine awp_plain hN rfl ?_
            refine seq_run1 (stp_loadA tyS42 rfl rfl rfl) rfl ?_
            obtain ⟨r31, h32, H⟩ := bnd H
            refine seq_run0 (stp_call (k_gateref2_ClaimsFault (S_api_Claims.mk v2 v3 v1.Issuer v1.Id r27 r29 v5.From v5.To) r31 h32) ⟨.inl rfl, trivial⟩) ?_
            refine seq_run0 (stp_assign (.dat _) rfl) ?_
            refine awp_seq ?_
            refine awp_plain hN rfl ?_
            refine seq_run0 (stp_move (.dat _) rfl) ?_
            refine seq_run0 (stp_neq rfl rfl) ?_
            refine awp_cond _ rfl (fun h33 => ?_) (fun h33 => ?_)
            · replace H := ift h33 H
              refine awp_seq ?_
              refine awp_plain hN rfl ?_
              refine seq_run0 (stp_wk (u' := vagg (C_api_Claims (S_api_Claims.mk [] [] [] [] [] [] 0 0))) (wk_agg (by exact ⟨wk_rfl, wk_rfl, wk_rfl, wk_rfl, wk_nil, wk_nil, wk_rfl, wk_rfl, trivial⟩)) (stp_build [] tyZ42 tyP42 rfl trivial)) ?_
              refine seq_run0 (stp_move (.dat _) rfl) ?_
              refine seq_run2 (stp_storeW tyS42 rfl rfl rfl rfl) rfl ?_
              refine seq_run0 (stp_assign (.dat _) rfl) ?_
              refine awp_ret ?_
              cases H
              exact ⟨trivial, .inl ⟨_, _, _, C_api_Claims (S_api_Claims.mk [] [] [] [] [] [] 0 0), rfl, rfl, rfl, rfl, tyS42⟩, .inl rfl, trivial⟩
            · replace H := iff_ h33 H
              refine awp_skip ?_
              refine awp_seq ?_
              refine awp_plain hN rfl ?_
              refine seq_run1 (stp_loadA tyS42 rfl rfl rfl) rfl ?_
              refine seq_run2 (stp_storeW tyS42 rfl rfl rfl rfl) rfl ?_
              refine seq_run0 (stp_assign (.dat _) rfl) ?_
              refine awp_ret ?_
              cases H
              exact ⟨trivial, .inl ⟨_, _, _, C_api_Claims (S_api_Claims.mk v2 v3 v1.Issuer v1.Id r27 r29 v5.From v5.To), rfl, rfl, rfl, rfl, tyS42⟩, .inl rfl, trivial⟩
  · rintro k10 x13 ⟨⟩ q11 h34 h35 H hq11
    replace H : gateref2_DelegateOf_L1 k10 x13 = some q11 := H
    unfold gateref2_DelegateOf_L1 at H
    refine awp_seq ?_
    refine awp_plain hN rfl ?_
    refine seq_run0 (stp_lss rfl rfl) ?_
    refine awp_seq ?_
    refine awp_cond _ rfl (fun h => ?_) (fun h => (lt_f h34 h).elim)
    refine awp_skip ?_
    refine awp_seq ?_
    refine awp_block ?_
    refine awp_seq ?_
    refine awp_plain hN rfl ?_
    refine seq_run0 (t_idx tyE60 (fun _ => rfl) rfl rfl h35) ?_
    refine seq_run0 (stp_loadE1 tyS28 rfl (map_at h35) rfl) ?_
    refine seq_run0 (stp_assign (.dat _) rfl) ?_
    refine awp_seq ?_
    refine awp_plain hN rfl ?_
    refine seq_run0 (stp_move (.dat _) rfl) ?_
    refine seq_run0 (stp_neq rfl rfl) ?_
    refine awp_cond _ rfl (fun h36 => ?_) (fun h36 => ?_)
    · replace H := ift h36 H
      refine awp_seq ?_
      refine awp_plain hN rfl ?_
      refine seq_run0 (stp_wk (u' := vagg (C_api_Claims (S_api_Claims.mk [] [] [] [] [] [] 0 0))) (wk_agg (by exact ⟨wk_rfl, wk_rfl, wk_rfl, wk_rfl, wk_nil, wk_nil, wk_rfl, wk_rfl, trivial⟩)) (stp_build [] tyZ42 tyP42 rfl trivial)) ?_
      refine seq_run0 (stp_move (.dat _) rfl) ?_
      refine seq_run2 (stp_storeW tyS42 rfl rfl rfl rfl) rfl ?_
      refine seq_run0 (stp_assign (.dat _) rfl) ?_
      refine awp_ret ?_
      replace H := retl H hq11
      cases H
      exact ⟨trivial, .inl ⟨_, _, _, C_api_Claims (S_api_Claims.mk [] [] [] [] [] [] 0 0), rfl, rfl, rfl, rfl, tyS42⟩, .inl rfl, trivial⟩
    · replace H := iff_ h36 H
      refine awp_skip ?_
      refine awp_plain hN rfl ?_
      refine seq_run0 (stp_add rfl rfl (by omega)) ?_
      refine seq_run0 (stp_move (.dat _) rfl) ?_
      exact ⟨_, backl H, ⟨rfl, rfl, rfl, rfl, rfl, rfl, rfl, rfl, rfl, trivial⟩, ⟨rfl, rfl, rfl, trivial⟩⟩
theorem k_gateref2_SameClaims (a1 : S_api_Claims) (b2 : S_api_Claims) (r : (Bool)) (H : m_gateref2_SameClaims a1 b2 = some r) : Fn Tryz.prog 23 [vagg (C_api_Claims a1), vagg (C_api_Claims b2)] (resOf [vbool r]) := by
  refine ⟨by kernel_rfl, pure_of (us := [vbool r]) Tryz.func23 rfl rfl rfl rfl fun X hN => ?_⟩
  unfold m_gateref2_SameClaims at H
  refine awp_seq ?_
  refine awp_plain hN rfl ?_
  refine seq_run2 (stp_boxA 1 rfl) rfl ?_
  refine seq_run2 (stp_boxA 2 rfl) rfl ?_
  refine seq_run0 (stp_assign (.dat _) rfl) ?_
  refine awp_joinE (ι := Bool) (fun i => [(4, .dat (vbool i))]) (fun i => []) (fun i => gateref2_SameClaims_J1 i = some r) (fun i => rfl) ?_ ?_
  · skip
    refine awp_plain hN rfl ?_
    refine seq_run0 (stp_fldP tyF42_0 rfl) ?_
    refine seq_run1 (stp_load1 tyS9 rfl rfl) rfl ?_
    refine seq_run0 (stp_fldP tyF42_1 rfl) ?_
    refine seq_run1 (stp_load1 tyS9 rfl rfl) rfl ?_
    refine seq_run0 (stp_fldP tyF42_2 rfl) ?_
    refine seq_run1 (stp_load1 tyS9 rfl rfl) rfl ?_
    refine seq_run0 (stp_fldP tyF42_3 rfl) ?_
    refine seq_run1 (stp_load1 tyS9 rfl rfl) rfl ?_
    refine seq_run0 (stp_dat (u' := vagg [vstr a1.Id, vstr a1.Subject, vstr a1.Issuer, vstr a1.Parent]) (stp_buildA [(0, [vstr a1.Id]), (1, [vstr a1.Subject]), (2, [vstr a1.Issuer]), (3, [vstr a1.Parent])] tyZ68 (show tyA Tryz.prog 68 = some (4, 9, .string) from by kernel_rfl) rfl ⟨rfl, .inl ⟨_, rfl, rfl, rfl⟩, rfl, rfl, .inl ⟨_, rfl, rfl, rfl⟩, rfl, rfl, .inl ⟨_, rfl, rfl, rfl⟩, rfl, rfl, .inl ⟨_, rfl, rfl, rfl⟩, rfl, trivial⟩) rfl) ?_
    refine seq_run0 (stp_fldP tyF42_0 rfl) ?_
    refine seq_run1 (stp_load1 tyS9 rfl rfl) rfl ?_
    refine seq_run0 (stp_fldP tyF42_1 rfl) ?_
    refine seq_run1 (stp_load1 tyS9 rfl rfl) rfl ?_
    refine seq_run0 (stp_fldP tyF42_2 rfl) ?_
    refine seq_run1 (stp_load1 tyS9 rfl rfl) rfl ?_
    refine seq_run0 (stp_fldP tyF42_3 rfl) ?_
    refine seq_run1 (stp_load1 tyS9 rfl rfl) rfl ?_
    refine seq_run0 (stp_dat (u' := vagg [vstr b2.Id, vstr b2.Subject, vstr b2.Issuer, vstr b2.Parent]) (stp_buildA [(0, [vstr b2.Id]), (1, [vstr b2.Subject]), (2, [vstr b2.Issuer]), (3, [vstr b2.Parent])] tyZ68 (show tyA Tryz.prog 68 = some (4, 9, .string) from by kernel_rfl) rfl ⟨rfl, .inl ⟨_, rfl, rfl, rfl⟩, rfl, rfl, .inl ⟨_, rfl, rfl, rfl⟩, rfl, rfl, .inl ⟨_, rfl, rfl, rfl⟩, rfl, rfl, .inl ⟨_, rfl, rfl, rfl⟩, rfl, trivial⟩) rfl) ?_
    refine seq_run0 (stp_aeqlA [_, _, _, _] [_, _, _, _] (show tyA Tryz.prog 68 = some (4, 9, .string) from by kernel_rfl) rfl rfl rfl rfl) ?_
    refine seq_run0 (stp_move (.dat _) rfl) ?_
    refine seq_split (j := 19) rfl rfl (fun h3 => ?_) (fun h3 => ?_) rfl
    · have h4 := un1 h3
      replace H := ift h4 H
      refine seq_g0 rfl rfl h3 (stp_fldP tyF42_4 rfl) ?_
      refine seq_g1 rfl rfl h3 (stp_load1 tyS26 rfl rfl) rfl ?_
      refine seq_g0 rfl rfl h3 (stp_fldP tyF42_4 rfl) ?_
      refine seq_g1 rfl rfl h3 (stp_load1 tyS26 rfl rfl) rfl ?_
      obtain ⟨r5, h6, H⟩ := bnd H
      refine seq_g0 rfl rfl h3 (stp_call (k_slices_Equal_L_string_string_ a1.Audience b2.Audience r5 h6) ⟨.inl rfl, .inl rfl, trivial⟩) ?_
      refine seq_run0 (stp_pick_t rfl (bTT h4) rfl) ?_
      refine seq_run0 (stp_move (.dat _) rfl) ?_
      refine seq_split (j := 26) rfl rfl (fun h7 => ?_) (fun h7 => ?_) rfl
      · have h8 := un1 h7
        replace H := ift h8 H
        refine seq_g0 rfl rfl h7 (stp_fldP tyF42_5 rfl) ?_
        refine seq_g1 rfl rfl h7 (stp_load1 tyS26 rfl rfl) rfl ?_
        refine seq_g0 rfl rfl h7 (stp_fldP tyF42_5 rfl) ?_
        refine seq_g1 rfl rfl h7 (stp_load1 tyS26 rfl rfl) rfl ?_
        obtain ⟨r9, h10, H⟩ := bnd H
        refine seq_g0 rfl rfl h7 (stp_call (k_slices_Equal_L_string_string_ a1.Scopes b2.Scopes r9 h10) ⟨.inl rfl, .inl rfl, trivial⟩) ?_
        refine seq_run0 (stp_pick_t rfl (bTT h8) rfl) ?_
        refine seq_run0 (stp_move (.dat _) rfl) ?_
        refine seq_split (j := 33) rfl rfl (fun h11 => ?_) (fun h11 => ?_) rfl
        · have h12 := un1 h11
          replace H := ift h12 H
          refine seq_g0 rfl rfl h11 (stp_fldP tyF42_6 rfl) ?_
          refine seq_g1 rfl rfl h11 (stp_load1 tyS3 rfl rfl) rfl ?_
          refine seq_g0 rfl rfl h11 (stp_fldP tyF42_6 rfl) ?_
          refine seq_g1 rfl rfl h11 (stp_load1 tyS3 rfl rfl) rfl ?_
          refine seq_g0 rfl rfl h11 (stp_eql rfl rfl) ?_
          refine seq_run0 (stp_pick_t rfl (bTT h12) rfl) ?_
          refine seq_run0 (stp_move (.dat _) rfl) ?_
          refine seq_split (j := 40) rfl rfl (fun h13 => ?_) (fun h13 => ?_) rfl
          · have h14 := un1 h13
            replace H := ift h14 H
            refine seq_g0 rfl rfl h13 (stp_fldP tyF42_7 rfl) ?_
            refine seq_g1 rfl rfl h13 (stp_load1 tyS3 rfl rfl) rfl ?_
            refine seq_g0 rfl rfl h13 (stp_fldP tyF42_7 rfl) ?_
            refine seq_g1 rfl rfl h13 (stp_load1 tyS3 rfl rfl) rfl ?_
            refine seq_g0 rfl rfl h13 (stp_eql rfl rfl) ?_
            refine seq_run0 (stp_pick_t rfl (bTT h14) rfl) ?_
            refine seq_run0 (stp_assign (.dat _) rfl) ?_
            exact ⟨decide (a1.To = b2.To), H, ⟨rfl, trivial⟩, trivial⟩
          · have h15 := un2 h13
            replace H := iff_ h15 H
            refine seq_skip rfl rfl h13 ?_
            refine seq_skip rfl rfl h13 ?_
            refine seq_skip rfl rfl h13 ?_
            refine seq_skip rfl rfl h13 ?_
            refine seq_skip rfl rfl h13 ?_
            refine seq_run0 (stp_pick_f rfl (bFF h15) rfl) ?_
            refine seq_run0 (stp_assign (.dat _) rfl) ?_
            exact ⟨false, H, ⟨rfl, trivial⟩, trivial⟩
        · have h16 := un2 h11
          replace H := iff_ h16 H
          refine seq_skip rfl rfl h11 ?_
          refine seq_skip rfl rfl h11 ?_
          refine seq_skip rfl rfl h11 ?_
          refine seq_skip rfl rfl h11 ?_
          refine seq_skip rfl rfl h11 ?_
          refine seq_run0 (stp_pick_f rfl (bFF h16) rfl) ?_
          refine seq_run0 (stp_move (.dat _) rfl) ?_
          refine seq_skip rfl rfl rfl ?_
          refine seq_skip rfl rfl rfl ?_
          refine seq_skip rfl rfl rfl ?_
          refine seq_skip rfl rfl rfl ?_
          refine seq_skip rfl rfl rfl ?_
          refine seq_run0 (stp_pick_f rfl rfl rfl) ?_
          refine seq_run0 (stp_assign (.dat _) rfl) ?_
          exact ⟨false, H, ⟨rfl, trivial⟩, trivial⟩
      · have h17 := un2 h7
        replace H := iff_ h17 H
        refine seq_skip rfl rfl h7 ?_
        refine seq_skip rfl rfl h7 ?_
        refine seq_skip rfl rfl h7 ?_
        refine seq_skip rfl rfl h7 ?_
        refine seq_skip rfl rfl h7 ?_
        refine seq_run0 (stp_pick_f rfl (bFF h17) rfl) ?_
        refine seq_run0 (stp_move (.dat _) rfl) ?_
        refine seq_skip rfl rfl rfl ?_
        refine seq_skip rfl rfl rfl ?_
        refine seq_skip rfl rfl rfl ?_
        refine seq_skip rfl rfl rfl ?_
        refine seq_skip rfl rfl rfl ?_
        refine seq_run0 (stp_pick_f rfl rfl rfl) ?_
        refine seq_run0 (stp_move (.dat _) rfl) ?_
        refine seq_skip rfl rfl rfl ?_
        refine seq_skip rfl rfl rfl ?_
        refine seq_skip rfl rfl rfl ?_
        refine seq_skip rfl rfl rfl ?_
        refine seq_skip rfl rfl rfl ?_
        refine seq_run0 (stp_pick_f rfl rfl rfl) ?_
        refine seq_run0 (stp_assign (.dat _) rfl) ?_
        exact ⟨false, H, ⟨rfl, trivial⟩, trivial⟩
    · have h18 := un2 h3
      replace H := iff_ h18 H
      refine seq_skip rfl rfl h3 ?_
      refine seq_skip rfl rfl h3 ?_
      refine seq_skip rfl rfl h3 ?_
      refine seq_skip rfl rfl h3 ?_
      refine seq_skip rfl rfl h3 ?_
      refine seq_run0 (stp_pick_f rfl (bFF h18) rfl) ?_
      refine seq_run0 (stp_move (.dat _) rfl) ?_
      refine seq_skip rfl rfl rfl ?_
      refine seq_skip rfl rfl rfl ?_
      refine seq_skip rfl rfl rfl ?_
      refine seq_skip rfl rfl rfl ?_
      refine seq_skip rfl rfl rfl ?_
      refine seq_run0 (stp_pick_f rfl rfl rfl) ?_
      refine seq_run0 (stp_move (.dat _) rfl) ?_
      refine seq_skip rfl rfl rfl ?_
      refine seq_skip rfl rfl rfl ?_
      refine seq_skip rfl rfl rfl ?_
      refine seq_skip rfl rfl rfl ?_
      refine seq_skip rfl rfl rfl ?_
      refine seq_run0 (stp_pick_f rfl rfl rfl) ?_
      refine seq_run0 (stp_move (.dat _) rfl) ?_
      refine seq_skip rfl rfl rfl ?_
      refine seq_skip rfl rfl rfl ?_
      refine seq_skip rfl rfl rfl ?_
      refine seq_skip rfl rfl rfl ?_
      refine seq_skip rfl rfl rfl ?_
      refine seq_run0 (stp_pick_f rfl rfl rfl) ?_
      refine seq_run0 (stp_assign (.dat _) rfl) ?_
      exact ⟨false, H, ⟨rfl, trivial⟩, trivial⟩
  · rintro v19 H
    replace H : gateref2_SameClaims_J1 v19 = some r := H
    unfold gateref2_SameClaims_J1 at H
    refine awp_ret ?_
    cases H
    exact ⟨trivial, .inl rfl, trivial⟩
theorem k_slices_IndexFunc_L_api_Claims_api_Claims_ (s1 : (List S_api_Claims)) (p1 : S_api_Claims → Option (Bool)) (fv1 : Nat) (us1 : List V) (hp1 : ∀ a0 r, p1 a0 = some r → Fn Tryz.prog fv1 ([vagg (C_api_Claims a0)] ++ us1) (resOf [vbool r])) (r : (Int)) (H : m_slices_IndexFunc_L_api_Claims_api_Claims_ s1 p1 = some r) : Fn Tryz.prog 75 [vlst (List.map C_api_Claims s1), vfn fv1 us1] (resOf [vint r]) := by
  refine ⟨by kernel_rfl, pure_of (us := [vint r]) Tryz.func75 rfl rfl rfl rfl fun X hN => ?_⟩
  unfold m_slices_IndexFunc_L_api_Claims_api_Claims_ at H
  refine awp_seq ?_
  refine awp_plain hN rfl ?_
  refine seq_run0 (stp_assign (.dat _) rfl) ?_
  refine awp_seq ?_
  refine awp_seq ?_
  refine awp_plain hN rfl ?_
  refine seq_run0 (stp_move (.dat _) rfl) ?_
  refine seq_run0 (t_len tyU52 rfl) ?_
  refine seq_run0 (stp_move (.dat _) rfl) ?_
  refine awp_block ?_
  obtain ⟨h4, H⟩ := gif H
  refine awp_forL (fun (k2 : Nat) (s : Unit) => [(0, .dat (vlst (List.map C_api_Claims s1))), (1, .dat (vfn fv1 us1)), (7, .dat (vint (s1.length : Int))), (8, .dat (vint (k2 : Int)))]) (fun (k2 : Nat) (s : Unit) => []) () H ⟨rfl, rfl, rfl, rfl, trivial⟩ trivial (fun _ _ => rfl) ?_ ?_
  · rintro ⟨⟩ H
    replace H : slices_IndexFunc_L_api_Claims_api_Claims__E1 = some r := H
    unfold slices_IndexFunc_L_api_Claims_api_Claims__E1 at H
    refine awp_seq ?_
    refine awp_plain hN rfl ?_
    refine seq_run0 (stp_lss rfl rfl) ?_
    refine awp_seq ?_
    refine awp_cond _ rfl (fun h => (lt_t h).elim) (fun h => ?_)
    refine awp_exit ?_
    refine awp_seq ?_
    refine awp_plain hN rfl ?_
    refine seq_run0 (stp_assign (.dat _) rfl) ?_
    refine awp_ret ?_
    cases H
    exact ⟨trivial, .inl rfl, trivial⟩
  · rintro k2 x5 ⟨⟩ q3 h6 h7 H hq3
    replace H : slices_IndexFunc_L_api_Claims_api_Claims__L1 p1 k2 x5 = some q3 := H
    unfold slices_IndexFunc_L_api_Claims_api_Claims__L1 at H
    refine awp_seq ?_
    refine awp_plain hN rfl ?_
    refine seq_run0 (stp_lss rfl rfl) ?_
    refine awp_seq ?_
    refine awp_cond _ rfl (fun h => ?_) (fun h => (lt_f h6 h).elim)
    refine awp_skip ?_
    refine awp_seq ?_
    refine awp_block ?_
    refine awp_seq ?_
    refine awp_plain hN rfl ?_
    refine seq_run0 (stp_move (.dat _) rfl) ?_
    refine seq_run0 (stp_assign (.dat _) rfl) ?_
    refine awp_seq ?_
    refine awp_plain hN rfl ?_
    refine seq_run0 (stp_move (.dat _) rfl) ?_
    refine seq_run0 (stp_move (.dat _) rfl) ?_
    refine seq_run0 (stp_move (.dat _) rfl) ?_
    refine seq_run0 (t_idx tyE52 (fun _ => rfl) rfl rfl h7) ?_
    refine seq_run0 (stp_loadEA tyS42 rfl (map_at h7) rfl) ?_
    obtain ⟨r8, h9, H⟩ := bnd H
    refine seq_run0 (stp_callv (hp1 x5 r8 h9) rfl ⟨.inl rfl, trivial⟩) ?_
    refine awp_cond _ rfl (fun h10 => ?_) (fun h10 => ?_)
    · replace H := ift h10 H
      refine awp_seq ?_
      refine awp_plain hN rfl ?_
      refine seq_run0 (stp_move (.dat _) rfl) ?_
      refine seq_run0 (stp_assign (.dat _) rfl) ?_
      refine awp_ret ?_
      replace H := retl H hq3
      cases H
      exact ⟨trivial, .inl rfl, trivial⟩
    · replace H := iff_ h10 H
      refine awp_skip ?_
      refine awp_plain hN rfl ?_
      refine seq_run0 (stp_add rfl rfl (by omega)) ?_
      refine seq_run0 (stp_move (.dat _) rfl) ?_
      exact ⟨_, backl H, ⟨rfl, rfl, rfl, rfl, trivial⟩, trivial⟩
theorem k_slices_ContainsFunc_L_api_Claims_api_Claims_ (s1 : (List S_api_Claims)) (p1 : S_api_Claims → Option (Bool)) (fv1 : Nat) (us1 : List V) (hp1 : ∀ a0 r, p1 a0 = some r → Fn Tryz.prog fv1 ([vagg (C_api_Claims a0)] ++ us1) (resOf [vbool r])) (r : (Bool)) (H : m_slices_ContainsFunc_L_api_Claims_api_Claims_ s1 p1 = some r) : Fn Tryz.prog 54 [vlst (List.map C_api_Claims s1), vfn fv1 us1] (resOf [vbool r]) := by
  refine ⟨by kernel_rfl, pure_of (us := [vbool r]) Tryz.func54 rfl rfl rfl rfl fun X hN => ?_⟩
  unfold m_slices_ContainsFunc_L_api_Claims_api_Claims_ at H
  refine awp_seq ?_
  refine awp_plain hN rfl ?_
  refine seq_run0 (stp_assign (.dat _) rfl) ?_
  refine awp_seq ?_
  refine awp_plain hN rfl ?_
  refine seq_run0 (stp_move (.dat _) rfl) ?_
  refine seq_run0 (stp_move (.dat _) rfl) ?_
  obtain ⟨r2, h3, H⟩ := bnd H
  refine seq_run0 (stp_call (k_slices_IndexFunc_L_api_Claims_api_Claims_ s1 p1 fv1 us1 hp1 r2 h3) ⟨.inl rfl, .inl rfl, trivial⟩) ?_
  refine seq_run0 (stp_geq rfl rfl) ?_
  refine seq_run0 (stp_assign (.dat _) rfl) ?_
  refine awp_ret ?_
  cases H
  exact ⟨trivial, .inl rfl, trivial⟩
theorem k_token_chainFault_1 (o1 : S_api_Claims) (c2 : S_api_Claims) (r : (Bool)) (H : m_token_chainFault_1 o1 c2 = some r) : Fn Tryz.prog 74 [vagg (C_api_Claims o1), vcell [[vstr c2.Id, vstr c2.Subject, vstr c2.Issuer, vstr c2.Parent, vlst (List.map C_string c2.Audience), vlst (List.map C_string c2.Scopes), vint c2.From, vint c2.To]] 0 0] (resOf [vbool r]) := by
  refine ⟨by kernel_rfl, pure_of (us := [vbool r]) Tryz.func74 rfl rfl rfl rfl fun X hN => ?_⟩
  unfold m_token_chainFault_1 at H
  refine awp_seq ?_
  refine awp_plain hN rfl ?_
  refine seq_run2 (stp_boxA 1 rfl) rfl ?_
  refine seq_run0 (stp_assign (.dat _) rfl) ?_
  refine awp_seq ?_
  refine awp_plain hN rfl ?_
  refine seq_run0 (stp_fldP tyF42_0 rfl) ?_
  refine seq_run1 (stp_load1 tyS9 rfl rfl) rfl ?_
  refine seq_run0 (stp_fldE tyF42_0 rfl) ?_
  refine seq_run0 (stp_loadE1 tyS9 rfl rfl rfl) ?_
  refine seq_run0 (stp_seql rfl rfl) ?_
  refine seq_run0 (stp_assign (.dat _) rfl) ?_
  refine awp_ret ?_
  cases H
  exact ⟨trivial, .inl rfl, trivial⟩
theorem k_token_chainFault (l1 : (List S_api_Claims)) (i2 : Int) (r : (Int)) (H : m_token_chainFault l1 i2 = some r) : Fn Tryz.prog 53 [vlst (List.map C_api_Claims l1), vint i2] (resOf [vint r]) := by
  refine ⟨by kernel_rfl, pure_of (us := [vint r]) Tryz.func53 rfl rfl rfl rfl fun X hN => ?_⟩
  unfold m_token_chainFault at H
  refine awp_seq ?_
  refine awp_plain hN rfl ?_
  refine seq_run0 (stp_assign (.dat _) rfl) ?_
  refine awp_seq ?_
  refine awp_draw mixed hN rfl rfl ?_
  refine seq_run0 (stp_move (.dat _) rfl) ?_
  refine seq_run0 (stp_move (.dat _) rfl) ?_
  obtain ⟨x3, h4, H⟩ := bnd H
  refine seq_run0 (t_idxI tyE52 (fun _ => rfl) rfl rfl h4) ?_
  refine seq_run0 (stp_loadEA tyS42 rfl (map_at (at_some h4).2) rfl) ?_
  refine seq_run0 (stp_move (.dat _) rfl) ?_
  refine seq_run0 (stp_move (.dat _) rfl) ?_
  refine seq_run0 (stp_wrap _ rfl rfl (.inr (.inl ⟨rfl, rfl⟩))) ?_
  obtain ⟨x5, h6, H⟩ := bnd H
  refine seq_run0 (t_idxI tyE52 (fun _ => rfl) rfl rfl h6) ?_
  refine seq_run0 (stp_loadEA tyS42 rfl (map_at (at_some h6).2) rfl) ?_
  refine seq_run2 (stp_alloc 1 tyZ42 rfl) rfl ?_
  refine seq_run2 (stp_alloc 2 tyZ42 rfl) rfl ?_
  refine seq_run2 (stp_storeW tyS42 rfl rfl rfl rfl) rfl ?_
  refine seq_run2 (stp_storeW tyS42 rfl rfl rfl rfl) rfl ?_
  refine ⟨rfl, ?_⟩
  refine awp_seq ?_
  refine awp_block ?_
  refine awp_seq ?_
  refine awp_plain hN rfl ?_
  refine seq_run0 (stp_fldP tyF42_3 rfl) ?_
  refine seq_run1 (stp_load1 tyS9 rfl rfl) rfl ?_
  refine seq_run0 (stp_fldP tyF42_0 rfl) ?_
  refine seq_run1 (stp_load1 tyS9 rfl rfl) rfl ?_
  refine seq_run0 (stp_sneq rfl rfl) ?_
  refine seq_run0 (stp_assign (.dat _) rfl) ?_
  refine awp_cond _ rfl (fun h7 => ?_) (fun h7 => ?_)
  · replace H := ift h7 H
    refine awp_seq ?_
    refine awp_plain hN rfl ?_
    refine seq_run0 (stp_assign (.dat _) rfl) ?_
    refine awp_ret ?_
    cases H
    exact ⟨trivial, .inl rfl, trivial⟩
  · replace H := iff_ h7 H
    refine awp_seq ?_
    refine awp_frzB 1 [vstr x3.Id, vstr x3.Subject, vstr x3.Issuer, vstr x3.Parent, vlst (List.map C_string x3.Audience), vlst (List.map C_string x3.Scopes), vint x3.From, vint x3.To] rfl rfl ?_
    refine awp_plain hN rfl ?_
    refine seq_run0 (stp_move (.dat _) rfl) ?_
    refine seq_run0 (stp_move (.dat _) rfl) ?_
    obtain ⟨l8, h9, H⟩ := bnd H
    refine seq_run0 (t_subL tyE52 (fun _ => rfl) rfl rfl rfl h9) ?_
    refine seq_run0 (stp_mkfn (us := [_]) ⟨rfl, trivial⟩) ?_
    obtain ⟨r10, h11, H⟩ := bnd H
    refine seq_run0 (stp_call (k_slices_ContainsFunc_L_api_Claims_api_Claims_ l8 (fun (a0 : S_api_Claims) => m_token_chainFault_1 a0 x3) 74 [vcell [[vstr x3.Id, vstr x3.Subject, vstr x3.Issuer, vstr x3.Parent, vlst (List.map C_string x3.Audience), vlst (List.map C_string x3.Scopes), vint x3.From, vint x3.To]] 0 0] (fun a0 r h => k_token_chainFault_1 a0 x3 r h) r10 h11) ⟨.inl rfl, .inl rfl, trivial⟩) ?_
    refine seq_run0 (stp_assign (.dat _) rfl) ?_
    refine awp_cond _ rfl (fun h12 => ?_) (fun h12 => ?_)
    · replace H := ift h12 H
      refine awp_seq ?_
      refine awp_plain hN rfl ?_
      refine seq_run0 (stp_assign (.dat _) rfl) ?_
      refine awp_ret ?_
      cases H
      exact ⟨trivial, .inl rfl, trivial⟩
    · replace H := iff_ h12 H
      refine awp_joinE (ι := Bool) (fun i => [(5, .dat (vcell [[vstr x3.Id, vstr x3.Subject, vstr x3.Issuer, vstr x3.Parent, vlst (List.map C_string x3.Audience), vlst (List.map C_string x3.Scopes), vint x3.From, vint x3.To]] 0 0)), (6, .ptr 2 0), (28, .dat (vbool i))]) (fun i => [(2, .box none 42 [.dat (vstr x5.Id), .dat (vstr x5.Subject), .dat (vstr x5.Issuer), .dat (vstr x5.Parent), .dat (vlst (List.map C_string x5.Audience)), .dat (vlst (List.map C_string x5.Scopes)), .dat (vint x5.From), .dat (vint x5.To)])]) (fun i => token_chainFault_J1 x3 x5 i = some r) (fun i => rfl) ?_ ?_
      · skip
        refine awp_plain hN rfl ?_
        refine seq_run0 (stp_fldE tyF42_2 rfl) ?_
        refine seq_run0 (stp_loadE1 tyS9 rfl rfl rfl) ?_
        refine seq_run0 (stp_fldP tyF42_2 rfl) ?_
        refine seq_run1 (stp_load1 tyS9 rfl rfl) rfl ?_
        refine seq_run0 (stp_sneq rfl rfl) ?_
        refine seq_run0 (stp_move (.dat _) rfl) ?_
        refine seq_split (j := 5) rfl rfl (fun h13 => ?_) (fun h13 => ?_) rfl
        · have h14 := un3 h13
          replace H := iff_ h14 H
          refine seq_g0 rfl rfl h13 (stp_fldE tyF42_4 rfl) ?_
          refine seq_g0 rfl rfl h13 (stp_loadE1 tyS26 rfl rfl rfl) ?_
          refine seq_g0 rfl rfl h13 (stp_fldP tyF42_4 rfl) ?_
          refine seq_g1 rfl rfl h13 (stp_load1 tyS26 rfl rfl) rfl ?_
          obtain ⟨r15, h16, H⟩ := bnd H
          refine seq_g0 rfl rfl h13 (stp_call (k_slices_Equal_L_string_string_ x3.Audience x5.Audience r15 h16) ⟨.inl rfl, .inl rfl, trivial⟩) ?_
          refine seq_g0 rfl rfl h13 (stp_not rfl) ?_
          refine seq_run0 (stp_pick_f rfl (bFF h14) rfl) ?_
          refine seq_run0 (stp_assign (.dat _) rfl) ?_
          exact ⟨!r15, H, ⟨rfl, rfl, rfl, trivial⟩, ⟨rfl, trivial⟩⟩
        · have h17 := un4 h13
          replace H := ift h17 H
          refine seq_skip rfl rfl h13 ?_
          refine seq_skip rfl rfl h13 ?_
          refine seq_skip rfl rfl h13 ?_
          refine seq_skip rfl rfl h13 ?_
          refine seq_skip rfl rfl h13 ?_
          refine seq_skip rfl rfl h13 ?_
          refine seq_run0 (stp_pick_t rfl (bTT h17) rfl) ?_
          refine seq_run0 (stp_assign (.dat _) rfl) ?_
          exact ⟨true, H, ⟨rfl, rfl, rfl, trivial⟩, ⟨rfl, trivial⟩⟩
      · rintro v18 H
        replace H : token_chainFault_J1 x3 x5 v18 = some r := H
        unfold token_chainFault_J1 at H
        refine awp_cond _ rfl (fun h19 => ?_) (fun h19 => ?_)
        · replace H := ift h19 H
          refine awp_seq ?_
          refine awp_plain hN rfl ?_
          refine seq_run0 (stp_assign (.dat _) rfl) ?_
          refine awp_ret ?_
          cases H
          exact ⟨trivial, .inl rfl, trivial⟩
        · replace H := iff_ h19 H
          refine awp_seq ?_
          refine awp_plain hN rfl ?_
          refine seq_run0 (stp_fldP tyF42_5 rfl) ?_
          refine seq_run1 (stp_load1 tyS26 rfl rfl) rfl ?_
          refine seq_run0 (stp_fldE tyF42_5 rfl) ?_
          refine seq_run0 (stp_loadE1 tyS26 rfl rfl rfl) ?_
          obtain ⟨r20, h21, H⟩ := bnd H
          refine seq_run0 (stp_call (k_token_coverAll x5.Scopes x3.Scopes r20 h21) ⟨.inl rfl, .inl rfl, trivial⟩) ?_
          refine seq_run0 (stp_not rfl) ?_
          refine seq_run0 (stp_move (.dat _) rfl) ?_
          refine seq_aF rfl rfl (fun hc => stp_fldE tyF42_6 rfl) ?_
          refine seq_aF rfl rfl (fun hc => stp_loadE1 tyS3 (cnd (c := (!(!r20))) hc) rfl rfl) ?_
          refine seq_aF rfl rfl (fun hc => stp_fldP tyF42_6 rfl) ?_
          refine seq_arF rfl rfl (fun hc => stp_load1 tyS3 (cnd (c := (!(!r20))) hc) rfl) rfl anti_p ?_
          refine seq_aF rfl rfl (fun hc => stp_lss (cnd (c := (!(!r20))) hc) (cnd (c := (!(!r20))) hc)) ?_
          refine seq_run0 (stp_pick_or rfl rfl (fun hb => (cnd (c := (!(!r20))) (notI hb)))) ?_
          refine seq_run0 (stp_move (.dat _) rfl) ?_
          refine seq_aF rfl rfl (fun hc => stp_fldE tyF42_7 rfl) ?_
          refine seq_aF rfl rfl (fun hc => stp_loadE1 tyS3 (cnd (c := (!((!r20) || (decide (x3.From < x5.From))))) hc) rfl rfl) ?_
          refine seq_aF rfl rfl (fun hc => stp_fldP tyF42_7 rfl) ?_
          refine seq_arF rfl rfl (fun hc => stp_load1 tyS3 (cnd (c := (!((!r20) || (decide (x3.From < x5.From))))) hc) rfl) rfl anti_p ?_
          refine seq_aF rfl rfl (fun hc => stp_gtr (cnd (c := (!((!r20) || (decide (x3.From < x5.From))))) hc) (cnd (c := (!((!r20) || (decide (x3.From < x5.From))))) hc)) ?_
          refine seq_run0 (stp_pick_or rfl rfl (fun hb => (cnd (c := (!((!r20) || (decide (x3.From < x5.From))))) (notI hb)))) ?_
          refine seq_run0 (stp_assign (.dat _) rfl) ?_
          refine awp_cond _ rfl (fun h22 => ?_) (fun h22 => ?_)
          · replace H := ift h22 H
            refine awp_seq ?_
            refine awp_plain hN rfl ?_
            refine seq_run0 (stp_assign (.dat _) rfl) ?_
            refine awp_ret ?_
            cases H
            exact ⟨trivial, .inl rfl, trivial⟩
          · replace H := iff_ h22 H
            refine awp_skip ?_
            refine awp_seq ?_
            refine awp_plain hN rfl ?_
            refine seq_run0 (stp_assign (.dat _) rfl) ?_
            refine awp_ret ?_
            cases H
            exact ⟨trivial, .inl rfl, trivial⟩
end Go.Proofs.YtpeeeanmfmhlgaaGreatDoor
