/- Walks along the models. Printed by a program. -/
import Derived.Test.YtpeeeanmfmhlgaaRw1
namespace Go.Proofs.Ytpeeeanmfmhlgaa
open Go.RowKit
set_option linter.unusedVariables false
set_option maxRecDepth 20000
theorem k_gateref2_SignersFault (v1 : (List S_api_Signer)) (r : (Int)) (H : m_gateref2_SignersFault v1 = some r) : Fn Try.prog 11 [vlst (List.map C_api_Signer v1)] (resOf [vint r]) := by
  refine ⟨by kernel_rfl, pure_of (us := [vint r]) Try.func11 rfl rfl rfl rfl fun X hN => ?_⟩
  unfold m_gateref2_SignersFault at H
  refine awp_seq ?_
  refine awp_plain hN rfl ?_
  refine seq_run0 (stp_assign (.dat _) rfl) ?_
  refine awp_seq ?_
  refine awp_seq ?_
  refine awp_plain hN rfl ?_
  refine seq_run0 (stp_move (.dat _) rfl) ?_
  refine seq_run0 (t_len tyU26 rfl) ?_
  refine seq_run0 (stp_gtr rfl rfl) ?_
  refine awp_cond _ rfl (fun h2 => ?_) (fun h2 => ?_)
  · replace H := ift h2 H
    refine awp_seq ?_
    refine awp_plain hN rfl ?_
    refine seq_run0 (stp_assign (.dat _) rfl) ?_
    refine awp_ret ?_
    cases H
    exact ⟨trivial, .inl rfl, trivial⟩
  · replace H := iff_ h2 H
    refine awp_skip ?_
    refine awp_seq ?_
    refine awp_seq ?_
    refine awp_plain hN rfl ?_
    refine seq_run0 (stp_move (.dat _) rfl) ?_
    refine seq_run0 (t_len tyU26 rfl) ?_
    refine seq_run0 (stp_move (.dat _) rfl) ?_
    refine awp_block ?_
    obtain ⟨h5, H⟩ := gif H
    refine awp_forL (fun (k3 : Nat) (s : Unit) => [(0, .dat (vlst (List.map C_api_Signer v1))), (9, .dat (vlst (List.map C_api_Signer v1))), (10, .dat (vint (v1.length : Int))), (11, .dat (vint (k3 : Int)))]) (fun (k3 : Nat) (s : Unit) => []) () H ⟨rfl, rfl, rfl, rfl, trivial⟩ trivial (fun _ _ => rfl) ?_ ?_
    · rintro ⟨⟩ H
      replace H : gateref2_SignersFault_E1 = some r := H
      unfold gateref2_SignersFault_E1 at H
      refine awp_seq ?_
      refine awp_plain hN rfl ?_
      refine seq_run0 (stp_lss rfl rfl) ?_
      refine awp_seq ?_
      refine awp_cond _ rfl (fun h => (lt_t h).elim) (fun h => ?_)
      refine awp_exit ?_
      refine awp_seq ?_
      refine awp_plain hN rfl ?_
      refine seq_run0 (stp_assign (.dat _) rfl) ?_
      refine awp_ret ?_
      cases H
      exact ⟨trivial, .inl rfl, trivial⟩
    · rintro k3 x6 ⟨⟩ q4 h7 h8 H hq4
      replace H : gateref2_SignersFault_L1 v1 k3 x6 = some q4 := H
      unfold gateref2_SignersFault_L1 at H
      refine awp_seq ?_
      refine awp_plain hN rfl ?_
      refine seq_run0 (stp_lss rfl rfl) ?_
      refine awp_seq ?_
      refine awp_cond _ rfl (fun h => ?_) (fun h => (lt_f h7 h).elim)
      refine awp_skip ?_
      refine awp_seq ?_
      refine awp_block ?_
      refine awp_seq ?_
      refine awp_plain hN rfl ?_
      refine seq_run0 (stp_move (.dat _) rfl) ?_
      refine seq_run0 (t_idx tyE26 (fun _ => rfl) rfl rfl h8) ?_
      refine seq_run0 (stp_loadEA tyS38 rfl (map_at h8) rfl) ?_
      refine seq_run2 (stp_alloc 1 tyZ38 rfl) rfl ?_
      refine seq_run0 (stp_assign (.dat _) rfl) ?_
      refine seq_run2 (stp_storeW tyS38 rfl rfl rfl rfl) rfl ?_
      refine awp_seq ?_
      refine awp_block ?_
      refine awp_seq ?_
      refine awp_plain hN rfl ?_
      refine seq_run0 (stp_fldP tyF38_0 rfl) ?_
      refine seq_run1 (stp_load1 tyS9 rfl rfl) rfl ?_
      obtain ⟨r9, h10, H⟩ := bnd H
      refine seq_run0 (stp_call (k_gateref2_Key x6.Id r9 h10) ⟨.inl rfl, trivial⟩) ?_
      refine seq_run0 (stp_not rfl) ?_
      refine seq_run0 (stp_assign (.dat _) rfl) ?_
      refine awp_cond _ rfl (fun h11 => ?_) (fun h11 => ?_)
      · replace H := ift h11 H
        refine awp_seq ?_
        refine awp_plain hN rfl ?_
        refine seq_run0 (stp_assign (.dat _) rfl) ?_
        refine awp_ret ?_
        replace H := retl H hq4
        cases H
        exact ⟨trivial, .inl rfl, trivial⟩
      · replace H := iff_ h11 H
        refine awp_seq ?_
        refine awp_frzB 1 [vstr x6.Id, vstr x6.Secret, vint x6.From, vint x6.To, vint x6.Until] rfl rfl ?_
        refine awp_plain hN rfl ?_
        refine seq_run0 (stp_move (.dat _) rfl) ?_
        refine seq_run0 (stp_move (.dat _) rfl) ?_
        obtain ⟨l12, h13, H⟩ := bnd H
        refine seq_run0 (t_subL tyE26 (fun _ => rfl) rfl rfl rfl h13) ?_
        refine seq_run0 (stp_mkfn (us := [_]) ⟨rfl, trivial⟩) ?_
        obtain ⟨r14, h15, H⟩ := bnd H
        refine seq_run0 (stp_call (k_slices_ContainsFunc_L_api_Signer_api_Signer_ l12 (fun (a0 : S_api_Signer) => m_gateref2_SignersFault_1 a0 x6) 33 [vcell [[vstr x6.Id, vstr x6.Secret, vint x6.From, vint x6.To, vint x6.Until]] 0 0] (fun a0 r h => k_gateref2_SignersFault_1 a0 x6 r h) r14 h15) ⟨.inl rfl, .inl rfl, trivial⟩) ?_
        refine seq_run0 (stp_assign (.dat _) rfl) ?_
        refine awp_cond _ rfl (fun h16 => ?_) (fun h16 => ?_)
        · replace H := ift h16 H
          refine awp_seq ?_
          refine awp_plain hN rfl ?_
          refine seq_run0 (stp_assign (.dat _) rfl) ?_
          refine awp_ret ?_
          replace H := retl H hq4
          cases H
          exact ⟨trivial, .inl rfl, trivial⟩
        · replace H := iff_ h16 H
          refine awp_skip ?_
          refine awp_seq ?_
          refine awp_seq ?_
          refine awp_plain hN rfl ?_
          refine seq_run0 (stp_fldE tyF38_1 rfl) ?_
          refine seq_run0 (stp_loadE1 tyS9 rfl rfl rfl) ?_
          obtain ⟨r17, h18, H⟩ := bnd H
          refine seq_run0 (stp_call (k_gateref2_SecretFault x6.Secret r17 h18) ⟨.inl rfl, trivial⟩) ?_
          refine seq_run0 (stp_assign (.dat _) rfl) ?_
          refine awp_seq ?_
          refine awp_plain hN rfl ?_
          refine seq_run0 (stp_move (.dat _) rfl) ?_
          refine seq_run0 (stp_neq rfl rfl) ?_
          refine awp_cond _ rfl (fun h19 => ?_) (fun h19 => ?_)
          · replace H := ift h19 H
            refine awp_seq ?_
            refine awp_plain hN rfl ?_
            refine seq_run0 (stp_move (.dat _) rfl) ?_
            refine seq_run0 (stp_assign (.dat _) rfl) ?_
            refine awp_ret ?_
            replace H := retl H hq4
            cases H
            exact ⟨trivial, .inl rfl, trivial⟩
          · replace H := iff_ h19 H
            refine awp_skip ?_
            refine awp_block ?_
            refine awp_seq ?_
            refine awp_plain hN rfl ?_
            refine seq_run0 (stp_fldE tyF38_2 rfl) ?_
            refine seq_run0 (stp_loadE1 tyS3 rfl rfl rfl) ?_
            refine seq_run0 (stp_fldE tyF38_3 rfl) ?_
            refine seq_run0 (stp_loadE1 tyS3 rfl rfl rfl) ?_
            obtain ⟨r20, h21, H⟩ := bnd H
            refine seq_run0 (stp_call (k_gateref2_in x6.From 0 x6.To r20 h21) ⟨.inl rfl, .inl rfl, .inl rfl, trivial⟩) ?_
            refine seq_run0 (stp_not rfl) ?_
            refine seq_run0 (stp_move (.dat _) rfl) ?_
            refine seq_aF rfl rfl (fun hc => stp_fldE tyF38_3 rfl) ?_
            refine seq_aF rfl rfl (fun hc => stp_loadE1 tyS3 (cnd (c := (!(!r20))) hc) rfl rfl) ?_
            refine seq_aF rfl rfl (fun hc => stp_fldE tyF38_4 rfl) ?_
            refine seq_aF rfl rfl (fun hc => stp_loadE1 tyS3 (cnd (c := (!(!r20))) hc) rfl rfl) ?_
            refine seq_aF rfl rfl (fun hc => stp_gtr (cnd (c := (!(!r20))) hc) (cnd (c := (!(!r20))) hc)) ?_
            refine seq_run0 (stp_pick_or rfl rfl (fun hb => (cnd (c := (!(!r20))) (notI hb)))) ?_
            refine seq_run0 (stp_move (.dat _) rfl) ?_
            refine seq_aF rfl rfl (fun hc => stp_fldE tyF38_4 rfl) ?_
            refine seq_aF rfl rfl (fun hc => stp_loadE1 tyS3 (cnd (c := (!((!r20) || (decide (x6.Until < x6.To))))) hc) rfl rfl) ?_
            refine seq_aF rfl rfl (fun hc => stp_gtr (cnd (c := (!((!r20) || (decide (x6.Until < x6.To))))) hc) rfl) ?_
            refine seq_run0 (stp_pick_or rfl rfl (fun hb => (cnd (c := (!((!r20) || (decide (x6.Until < x6.To))))) (notI hb)))) ?_
            refine seq_run0 (stp_assign (.dat _) rfl) ?_
            refine awp_cond _ rfl (fun h22 => ?_) (fun h22 => ?_)
            · replace H := ift h22 H
              refine awp_seq ?_
              refine awp_plain hN rfl ?_
              refine seq_run0 (stp_assign (.dat _) rfl) ?_
              refine awp_ret ?_
              replace H := retl H hq4
              cases H
              exact ⟨trivial, .inl rfl, trivial⟩
            · replace H := iff_ h22 H
              refine awp_joinE (ι := Bool) (fun i => [(0, .dat (vlst (List.map C_api_Signer v1))), (9, .dat (vlst (List.map C_api_Signer v1))), (10, .dat (vint (v1.length : Int))), (11, .dat (vint (k3 : Int))), (52, .dat (vbool i))]) (fun i => []) (fun i => gateref2_SignersFault_J2 i = some q4) (fun i => rfl) ?_ ?_
              · skip
                refine awp_draw mixed hN rfl rfl ?_
                refine seq_run0 (stp_move (.dat _) rfl) ?_
                refine seq_run0 (stp_gtr rfl rfl) ?_
                refine seq_run0 (stp_move (.dat _) rfl) ?_
                refine seq_split (j := 2) rfl rfl (fun h23 => ?_) (fun h23 => ?_) rfl
                · have h24 := un1 h23
                  replace H := ift h24 H
                  refine seq_g0 rfl rfl h23 (stp_fldE tyF38_2 rfl) ?_
                  refine seq_g0 rfl rfl h23 (stp_loadE1 tyS3 rfl rfl rfl) ?_
                  refine seq_g0 rfl rfl h23 (stp_move (.dat _) rfl) ?_
                  refine seq_g0 rfl rfl h23 (stp_move (.dat _) rfl) ?_
                  refine seq_g0 rfl rfl h23 (stp_sub rfl rfl (by omega)) ?_
                  obtain ⟨x25, h26, H⟩ := bnd H
                  refine seq_g0 rfl rfl h23 (t_idxI tyE26 (fun _ => rfl) rfl rfl h26) ?_
                  refine seq_g0 rfl rfl h23 (stp_fldE tyF38_2 rfl) ?_
                  refine seq_g0 rfl rfl h23 (stp_loadE1 tyS3 rfl (map_at (at_some h26).2) rfl) ?_
                  refine seq_g0 rfl rfl h23 (stp_lss rfl rfl) ?_
                  refine seq_run0 (stp_pick_t rfl (bTT h24) rfl) ?_
                  refine seq_run0 (stp_assign (.dat _) rfl) ?_
                  refine ⟨rfl, ?_⟩
                  exact ⟨decide (x6.From < x25.From), H, ⟨rfl, rfl, rfl, rfl, rfl, trivial⟩, trivial⟩
                · have h27 := un2 h23
                  replace H := iff_ h27 H
                  refine seq_skip rfl rfl h23 ?_
                  refine seq_skip rfl rfl h23 ?_
                  refine seq_skip rfl rfl h23 ?_
                  refine seq_skip rfl rfl h23 ?_
                  refine seq_skip rfl rfl h23 ?_
                  refine seq_skip rfl rfl h23 ?_
                  refine seq_skip rfl rfl h23 ?_
                  refine seq_skip rfl rfl h23 ?_
                  refine seq_skip rfl rfl h23 ?_
                  refine seq_run0 (stp_pick_f rfl (bFF h27) rfl) ?_
                  refine seq_run0 (stp_assign (.dat _) rfl) ?_
                  refine ⟨rfl, ?_⟩
                  exact ⟨false, H, ⟨rfl, rfl, rfl, rfl, rfl, trivial⟩, trivial⟩
              · rintro v28 H
                replace H : gateref2_SignersFault_J2 v28 = some q4 := H
                unfold gateref2_SignersFault_J2 at H
                refine awp_cond _ rfl (fun h29 => ?_) (fun h29 => ?_)
                · replace H := ift h29 H
                  refine awp_seq ?_
                  refine awp_plain hN rfl ?_
                  refine seq_run0 (stp_assign (.dat _) rfl) ?_
                  refine awp_ret ?_
                  replace H := retl H hq4
                  cases H
                  exact ⟨trivial, .inl rfl, trivial⟩
                · replace H := iff_ h29 H
                  refine awp_skip ?_
                  refine awp_plain hN rfl ?_
                  refine seq_run0 (stp_add rfl rfl (by omega)) ?_
                  refine seq_run0 (stp_move (.dat _) rfl) ?_
                  exact ⟨_, backl H, ⟨rfl, rfl, rfl, rfl, trivial⟩, trivial⟩
theorem k_gateref2_RotateOf_1 (s1 : S_api_Signer) (c2 : Bs) (r : (Bool)) (H : m_gateref2_RotateOf_1 s1 c2 = some r) : Fn Try.prog 36 [vagg (C_api_Signer s1), vcell [[vstr c2]] 0 0] (resOf [vbool r]) := by
  refine ⟨by kernel_rfl, pure_of (us := [vbool r]) Try.func36 rfl rfl rfl rfl fun X hN => ?_⟩
  unfold m_gateref2_RotateOf_1 at H
  refine awp_seq ?_
  refine awp_plain hN rfl ?_
  refine seq_run2 (stp_boxA 1 rfl) rfl ?_
  refine seq_run0 (stp_assign (.dat _) rfl) ?_
  refine awp_seq ?_
  refine awp_plain hN rfl ?_
  refine seq_run0 (stp_fldP tyF38_0 rfl) ?_
  refine seq_run1 (stp_load1 tyS9 rfl rfl) rfl ?_
  refine seq_run0 (stp_loadE1 tyS9 rfl rfl rfl) ?_
  refine seq_run0 (stp_seql rfl rfl) ?_
  refine seq_run0 (stp_assign (.dat _) rfl) ?_
  refine awp_ret ?_
  cases H
  exact ⟨trivial, .inl rfl, trivial⟩
theorem k_gateref2_Moment (v1 : Int) (r : (Bool)) (H : m_gateref2_Moment v1 = some r) : Fn Try.prog 37 [vint v1] (resOf [vbool r]) := by
  refine ⟨by kernel_rfl, pure_of (us := [vbool r]) Try.func37 rfl rfl rfl rfl fun X hN => ?_⟩
  unfold m_gateref2_Moment at H
  refine awp_seq ?_
  refine awp_plain hN rfl ?_
  refine seq_run0 (stp_assign (.dat _) rfl) ?_
  refine awp_seq ?_
  refine awp_plain hN rfl ?_
  refine seq_run0 (stp_move (.dat _) rfl) ?_
  obtain ⟨r2, h3, H⟩ := bnd H
  refine seq_run0 (stp_call (k_gateref2_in v1 0 345686399999 r2 h3) ⟨.inl rfl, .inl rfl, .inl rfl, trivial⟩) ?_
  refine seq_run0 (stp_assign (.dat _) rfl) ?_
  refine awp_ret ?_
  cases H
  exact ⟨trivial, .inl rfl, trivial⟩
theorem k_gateref2_RotateOf (v1 : (List S_api_Signer)) (v2 : Bs) (v3 : Bs) (v4 : Int) (v5 : Int) (v6 : Int) (r : ((List S_api_Signer) × Int)) (H : m_gateref2_RotateOf v1 v2 v3 v4 v5 v6 = some r) : Fn Try.prog 12 [vlst (List.map C_api_Signer v1), vstr v2, vstr v3, vint v4, vint v5, vint v6] (resOf [vlst (List.map C_api_Signer r.1), vint r.2]) := by
  refine ⟨by kernel_rfl, pure_of (us := [vlst (List.map C_api_Signer r.1), vint r.2]) Try.func12 rfl rfl rfl rfl fun X hN => ?_⟩
  unfold m_gateref2_RotateOf at H
  refine awp_seq ?_
  refine awp_plain hN rfl ?_
  refine seq_run2 (stp_box1 1 rfl rfl) rfl ?_
  refine seq_run0 (stp_assign (.dat _) rfl) ?_
  refine seq_run0 (stp_assign (.dat _) rfl) ?_
  refine awp_seq ?_
  refine awp_seq ?_
  refine awp_plain hN rfl ?_
  refine seq_run1 (stp_load1 tyS9 rfl rfl) rfl ?_
  obtain ⟨r7, h8, H⟩ := bnd H
  refine seq_run0 (stp_call (k_gateref2_Key v2 r7 h8) ⟨.inl rfl, trivial⟩) ?_
  refine seq_run0 (stp_not rfl) ?_
  refine awp_cond _ rfl (fun h9 => ?_) (fun h9 => ?_)
  · replace H := ift h9 H
    refine awp_seq ?_
    refine awp_plain hN rfl ?_
    refine seq_run0 (stp_assign (.dat _) rfl) ?_
    refine seq_run0 (stp_assign (.dat _) rfl) ?_
    refine awp_ret ?_
    cases H
    exact ⟨trivial, .inr ⟨rfl, rfl⟩, .inl rfl, trivial⟩
  · replace H := iff_ h9 H
    refine awp_skip ?_
    refine awp_seq ?_
    refine awp_seq ?_
    refine awp_frzB 1 [vstr v2] rfl rfl ?_
    refine awp_plain hN rfl ?_
    refine seq_run0 (stp_move (.dat _) rfl) ?_
    refine seq_run0 (stp_mkfn (us := [_]) ⟨rfl, trivial⟩) ?_
    obtain ⟨r10, h11, H⟩ := bnd H
    refine seq_run0 (stp_call (k_slices_ContainsFunc_L_api_Signer_api_Signer_ v1 (fun (a0 : S_api_Signer) => m_gateref2_RotateOf_1 a0 v2) 36 [vcell [[vstr v2]] 0 0] (fun a0 r h => k_gateref2_RotateOf_1 a0 v2 r h) r10 h11) ⟨.inl rfl, .inl rfl, trivial⟩) ?_
    refine awp_cond _ rfl (fun h12 => ?_) (fun h12 => ?_)
    · replace H := ift h12 H
      refine awp_seq ?_
      refine awp_plain hN rfl ?_
      refine seq_run0 (stp_assign (.dat _) rfl) ?_
      refine seq_run0 (stp_assign (.dat _) rfl) ?_
      refine awp_ret ?_
      cases H
      exact ⟨trivial, .inr ⟨rfl, rfl⟩, .inl rfl, trivial⟩
    · replace H := iff_ h12 H
      refine awp_skip ?_
      refine awp_seq ?_
      refine awp_seq ?_
      refine awp_plain hN rfl ?_
      refine seq_run0 (stp_move (.dat _) rfl) ?_
      obtain ⟨r13, h14, H⟩ := bnd H
      refine seq_run0 (stp_call (k_gateref2_SecretFault v3 r13 h14) ⟨.inl rfl, trivial⟩) ?_
      refine seq_run0 (stp_assign (.dat _) rfl) ?_
      refine awp_seq ?_
      refine awp_plain hN rfl ?_
      refine seq_run0 (stp_move (.dat _) rfl) ?_
      refine seq_run0 (stp_neq rfl rfl) ?_
      refine awp_cond _ rfl (fun h15 => ?_) (fun h15 => ?_)
      · replace H := ift h15 H
        refine awp_seq ?_
        refine awp_plain hN rfl ?_
        refine seq_run0 (stp_move (.dat _) rfl) ?_
        refine seq_run0 (stp_assign (.dat _) rfl) ?_
        refine seq_run0 (stp_assign (.dat _) rfl) ?_
        refine awp_ret ?_
        cases H
        exact ⟨trivial, .inr ⟨rfl, rfl⟩, .inl rfl, trivial⟩
      · replace H := iff_ h15 H
        refine awp_skip ?_
        refine awp_seq ?_
        refine awp_block ?_
        refine awp_joinE (ι := Bool) (fun i => [(0, .dat (vlst (List.map C_api_Signer v1))), (2, .dat (vstr v3)), (3, .dat (vint v4)), (4, .dat (vint v5)), (5, .dat (vint v6)), (7, .dat (vcell [[vstr v2]] 0 0)), (30, .dat (vbool i))]) (fun i => []) (fun i => gateref2_RotateOf_J1 v1 v2 v3 v4 v5 v6 i = some r) (fun i => rfl) ?_ ?_
        · skip
          refine awp_plain hN rfl ?_
          refine seq_run0 (stp_move (.dat _) rfl) ?_
          obtain ⟨r16, h17, H⟩ := bnd H
          refine seq_run0 (stp_call (k_gateref2_Moment v4 r16 h17) ⟨.inl rfl, trivial⟩) ?_
          refine seq_run0 (stp_not rfl) ?_
          refine seq_run0 (stp_move (.dat _) rfl) ?_
          refine seq_split (j := 3) rfl rfl (fun h18 => ?_) (fun h18 => ?_) rfl
          · have h19 := un3 h18
            replace H := iff_ h19 H
            refine seq_g0 rfl rfl h18 (stp_move (.dat _) rfl) ?_
            obtain ⟨r20, h21, H⟩ := bnd H
            refine seq_g0 rfl rfl h18 (stp_call (k_gateref2_in v5 1 345686400000 r20 h21) ⟨.inl rfl, .inl rfl, .inl rfl, trivial⟩) ?_
            refine seq_g0 rfl rfl h18 (stp_not rfl) ?_
            refine seq_run0 (stp_pick_f rfl (bFF h19) rfl) ?_
            refine seq_run0 (stp_move (.dat _) rfl) ?_
            refine seq_split (j := 8) rfl rfl (fun h22 => ?_) (fun h22 => ?_) rfl
            · have h23 := un3 h22
              replace H := iff_ h23 H
              refine seq_g0 rfl rfl h22 (stp_move (.dat _) rfl) ?_
              obtain ⟨r24, h25, H⟩ := bnd H
              refine seq_g0 rfl rfl h22 (stp_call (k_gateref2_in v6 0 345686400000 r24 h25) ⟨.inl rfl, .inl rfl, .inl rfl, trivial⟩) ?_
              refine seq_g0 rfl rfl h22 (stp_not rfl) ?_
              refine seq_run0 (stp_pick_f rfl (bFF h23) rfl) ?_
              refine seq_run0 (stp_assign (.dat _) rfl) ?_
              exact ⟨!r24, H, ⟨rfl, rfl, rfl, rfl, rfl, rfl, rfl, trivial⟩, trivial⟩
            · have h26 := un4 h22
              replace H := ift h26 H
              refine seq_skip rfl rfl h22 ?_
              refine seq_skip rfl rfl h22 ?_
              refine seq_skip rfl rfl h22 ?_
              refine seq_run0 (stp_pick_t rfl (bTT h26) rfl) ?_
              refine seq_run0 (stp_assign (.dat _) rfl) ?_
              exact ⟨true, H, ⟨rfl, rfl, rfl, rfl, rfl, rfl, rfl, trivial⟩, trivial⟩
          · have h27 := un4 h18
            replace H := ift h27 H
            refine seq_skip rfl rfl h18 ?_
            refine seq_skip rfl rfl h18 ?_
            refine seq_skip rfl rfl h18 ?_
            refine seq_run0 (stp_pick_t rfl (bTT h27) rfl) ?_
            refine seq_run0 (stp_move (.dat _) rfl) ?_
            refine seq_skip rfl rfl rfl ?_
            refine seq_skip rfl rfl rfl ?_
            refine seq_skip rfl rfl rfl ?_
            refine seq_run0 (stp_pick_t rfl rfl rfl) ?_
            refine seq_run0 (stp_assign (.dat _) rfl) ?_
            exact ⟨true, H, ⟨rfl, rfl, rfl, rfl, rfl, rfl, rfl, trivial⟩, trivial⟩
        · rintro v28 H
          replace H : gateref2_RotateOf_J1 v1 v2 v3 v4 v5 v6 v28 = some r := H
          unfold gateref2_RotateOf_J1 at H
          refine awp_cond _ rfl (fun h29 => ?_) (fun h29 => ?_)
          · replace H := ift h29 H
            refine awp_seq ?_
            refine awp_plain hN rfl ?_
            refine seq_run0 (stp_assign (.dat _) rfl) ?_
            refine seq_run0 (stp_assign (.dat _) rfl) ?_
            refine awp_ret ?_
            cases H
            exact ⟨trivial, .inr ⟨rfl, rfl⟩, .inl rfl, trivial⟩
          · replace H := iff_ h29 H
            refine awp_joinE (ι := Bool) (fun i => [(0, .dat (vlst (List.map C_api_Signer v1))), (2, .dat (vstr v3)), (3, .dat (vint v4)), (4, .dat (vint v5)), (5, .dat (vint v6)), (7, .dat (vcell [[vstr v2]] 0 0)), (44, .dat (vbool i))]) (fun i => []) (fun i => gateref2_RotateOf_J2 v1 v2 v3 v4 v5 v6 i = some r) (fun i => rfl) ?_ ?_
            · skip
              refine awp_plain hN rfl ?_
              refine seq_run0 (stp_move (.dat _) rfl) ?_
              refine seq_run0 (t_len tyU26 rfl) ?_
              refine seq_run0 (stp_gtr rfl rfl) ?_
              refine seq_run0 (stp_move (.dat _) rfl) ?_
              refine seq_split (j := 3) rfl rfl (fun h30 => ?_) (fun h30 => ?_) rfl
              · have h31 := un1 h30
                replace H := ift h31 H
                refine seq_g0 rfl rfl h30 (stp_move (.dat _) rfl) ?_
                refine seq_g0 rfl rfl h30 (stp_move (.dat _) rfl) ?_
                refine seq_g0 rfl rfl h30 (stp_move (.dat _) rfl) ?_
                refine seq_g0 rfl rfl h30 (t_len tyU26 rfl) ?_
                refine seq_g0 rfl rfl h30 (stp_wrap _ rfl rfl (.inr (.inl ⟨rfl, rfl⟩))) ?_
                obtain ⟨x32, h33, H⟩ := bnd H
                refine seq_g0 rfl rfl h30 (t_idxI tyE26 (fun _ => rfl) rfl rfl h33) ?_
                refine seq_g0 rfl rfl h30 (stp_fldE tyF38_2 rfl) ?_
                refine seq_g0 rfl rfl h30 (stp_loadE1 tyS3 rfl (map_at (at_some h33).2) rfl) ?_
                refine seq_g0 rfl rfl h30 (stp_lss rfl rfl) ?_
                refine seq_run0 (stp_pick_t rfl (bTT h31) rfl) ?_
                refine seq_run0 (stp_assign (.dat _) rfl) ?_
                exact ⟨decide (v4 < x32.From), H, ⟨rfl, rfl, rfl, rfl, rfl, rfl, rfl, trivial⟩, trivial⟩
              · have h34 := un2 h30
                replace H := iff_ h34 H
                refine seq_skip rfl rfl h30 ?_
                refine seq_skip rfl rfl h30 ?_
                refine seq_skip rfl rfl h30 ?_
                refine seq_skip rfl rfl h30 ?_
                refine seq_skip rfl rfl h30 ?_
                refine seq_skip rfl rfl h30 ?_
                refine seq_skip rfl rfl h30 ?_
                refine seq_skip rfl rfl h30 ?_
                refine seq_skip rfl rfl h30 ?_
                refine seq_run0 (stp_pick_f rfl (bFF h34) rfl) ?_
                refine seq_run0 (stp_assign (.dat _) rfl) ?_
                exact ⟨false, H, ⟨rfl, rfl, rfl, rfl, rfl, rfl, rfl, trivial⟩, trivial⟩
            · rintro v35 H
              replace H : gateref2_RotateOf_J2 v1 v2 v3 v4 v5 v6 v35 = some r := H
              unfold gateref2_RotateOf_J2 at H
              refine awp_cond _ rfl (fun h36 => ?_) (fun h36 => ?_)
              · replace H := ift h36 H
                refine awp_seq ?_
                refine awp_plain hN rfl ?_
                refine seq_run0 (stp_assign (.dat _) rfl) ?_
                refine seq_run0 (stp_assign (.dat _) rfl) ?_
                refine awp_ret ?_
                cases H
                exact ⟨trivial, .inr ⟨rfl, rfl⟩, .inl rfl, trivial⟩
              · replace H := iff_ h36 H
                refine awp_seq ?_
                refine awp_plain hN rfl ?_
                refine seq_run0 (stp_move (.dat _) rfl) ?_
                refine seq_run0 (t_len tyU26 rfl) ?_
                refine seq_run0 (stp_geq rfl rfl) ?_
                refine seq_run0 (stp_assign (.dat _) rfl) ?_
                refine awp_cond _ rfl (fun h37 => ?_) (fun h37 => ?_)
                · replace H := ift h37 H
                  refine awp_seq ?_
                  refine awp_plain hN rfl ?_
                  refine seq_run0 (stp_assign (.dat _) rfl) ?_
                  refine seq_run0 (stp_assign (.dat _) rfl) ?_
                  refine awp_ret ?_
                  cases H
                  exact ⟨trivial, .inr ⟨rfl, rfl⟩, .inl rfl, trivial⟩
                · replace H := iff_ h37 H
                  refine awp_skip ?_
                  refine awp_seq ?_
                  refine awp_plain hN rfl ?_
                  refine seq_run0 (stp_assign (.dat _) rfl) ?_
                  refine awp_seq ?_
                  refine awp_seq ?_
                  refine awp_plain hN rfl ?_
                  refine seq_run0 (stp_move (.dat _) rfl) ?_
                  refine seq_run0 (t_len tyU26 rfl) ?_
                  refine seq_run0 (stp_move (.dat _) rfl) ?_
                  refine awp_block ?_
                  refine awp_nilrow 15 2 38 5 rfl rfl rfl ?_
                  obtain ⟨h41, H⟩ := gif H
                  refine awp_forL (fun (k39 : Nat) (s : (List S_api_Signer)) => [(2, .dat (vstr v3)), (3, .dat (vint v4)), (4, .dat (vint v5)), (5, .dat (vint v6)), (7, .dat (vcell [[vstr v2]] 0 0)), (15, .row 2 s.length), (63, .dat (vlst (List.map C_api_Signer v1))), (64, .dat (vint (v1.length : Int))), (65, .dat (vint (k39 : Int)))]) (fun (k39 : Nat) (s : (List S_api_Signer)) => [(2, .row 38 5 (List.map C_api_Signer s))]) [] H ⟨rfl, rfl, rfl, rfl, rfl, congrArg (Slot.row 2) (by simp), rfl, rfl, rfl, trivial⟩ ⟨rfl, trivial⟩ (fun _ _ => rfl) ?_ ?_
                  · rintro l38 H
                    replace H : gateref2_RotateOf_E3 v2 v3 v4 v5 v6 l38 = some r := H
                    unfold gateref2_RotateOf_E3 at H
                    refine awp_seq ?_
                    refine awp_plain hN rfl ?_
                    refine seq_run0 (stp_lss rfl rfl) ?_
                    refine awp_seq ?_
                    refine awp_cond _ rfl (fun h => (lt_t h).elim) (fun h => ?_)
                    refine awp_exit ?_
                    refine awp_seq ?_
                    refine awp_plain hN rfl ?_
                    refine seq_run0 (stp_move (.dat _) rfl) ?_
                    refine seq_run0 (stp_move (.dat _) rfl) ?_
                    refine seq_run0 (stp_wrap _ rfl rfl (.inl ⟨rfl, rfl⟩)) ?_
                    refine seq_run0 (stp_min rfl rfl) ?_
                    refine seq_run0 (stp_assign (.dat _) rfl) ?_
                    refine awp_seq ?_
                    refine awp_plain hN rfl ?_
                    refine seq_run0 (stp_move (.row _ _) rfl) ?_
                    refine seq_run0 (stp_loadE1 tyS9 rfl rfl rfl) ?_
                    refine seq_run0 (stp_move (.dat _) rfl) ?_
                    refine seq_run0 (stp_move (.dat _) rfl) ?_
                    refine seq_run0 (stp_move (.dat _) rfl) ?_
                    refine seq_run0 (stp_move (.dat _) rfl) ?_
                    refine seq_run0 (stp_move (.dat _) rfl) ?_
                    refine seq_run0 (stp_wrap _ rfl rfl (.inl ⟨rfl, rfl⟩)) ?_
                    refine seq_run0 (stp_min rfl rfl) ?_
                    refine seq_run0 (stp_dat (u' := vagg (C_api_Signer (S_api_Signer.mk v2 v3 v4 (min (wr (v4 + v5)) 345686400000) (min (wr ((min (wr (v4 + v5)) 345686400000) + v6)) 345686400000)))) (stp_build [(0, [vstr v2]), (1, [vstr v3]), (2, [vint v4]), (3, [vint (min (wr (v4 + v5)) 345686400000)]), (4, [vint (min (wr ((min (wr (v4 + v5)) 345686400000) + v6)) 345686400000)])] tyZ38 tyP38 rfl ⟨rfl, .inl ⟨_, rfl, rfl, rfl⟩, rfl, rfl, .inl ⟨_, rfl, rfl, rfl⟩, rfl, rfl, .inl ⟨_, rfl, rfl, rfl⟩, rfl, rfl, .inl ⟨_, rfl, rfl, rfl⟩, rfl, rfl, .inl ⟨_, rfl, rfl, rfl⟩, rfl, trivial⟩) rfl) ?_
                    refine seq_run0 (stp_dat (u' := vlst (List.map C_api_Signer [(S_api_Signer.mk v2 v3 v4 (min (wr (v4 + v5)) 345686400000) (min (wr ((min (wr (v4 + v5)) 345686400000) + v6)) 345686400000))])) (stp_lit [_] tyL26 ⟨rfl, .inr rfl, rfl, trivial⟩ rfl rfl) rfl) ?_
                    obtain ⟨h43, H⟩ := gif H
                    refine seq_run2 (t_app tyL26 (fun _ => rfl) rfl rfl rfl ⟨by simp, by simpa using h43⟩ rfl) rfl ?_
                    refine seq_run0 (stp_assign (.row _ _) rfl) ?_
                    refine seq_run0 (stp_assign (.dat _) rfl) ?_
                    refine awp_ret ?_
                    cases H
                    exact ⟨trivial, t_slotv rfl rfl, .inl rfl, trivial⟩
                  · rintro k39 x42 l38 q40 h44 h45 H hq40
                    replace H : gateref2_RotateOf_L3 v4 k39 x42 l38 = some q40 := H
                    unfold gateref2_RotateOf_L3 at H
                    refine awp_seq ?_
                    refine awp_plain hN rfl ?_
                    refine seq_run0 (stp_lss rfl rfl) ?_
                    refine awp_seq ?_
                    refine awp_cond _ rfl (fun h => ?_) (fun h => (lt_f h44 h).elim)
                    refine awp_skip ?_
                    refine awp_seq ?_
                    refine awp_block ?_
                    refine awp_seq ?_
                    refine awp_plain hN rfl ?_
                    refine seq_run0 (t_idx tyE26 (fun _ => rfl) rfl rfl h45) ?_
                    refine seq_run0 (stp_loadEA tyS38 rfl (map_at h45) rfl) ?_
                    refine seq_run2 (stp_alloc 3 tyZ38 rfl) rfl ?_
                    refine seq_run2 (stp_storeW tyS38 rfl rfl rfl rfl) rfl ?_
                    refine awp_seq ?_
                    refine awp_plain hN rfl ?_
                    refine seq_run0 (stp_fldP tyF38_3 rfl) ?_
                    refine seq_run1 (stp_load1 tyS3 rfl rfl) rfl ?_
                    refine seq_run0 (stp_move (.dat _) rfl) ?_
                    refine seq_run0 (stp_min rfl rfl) ?_
                    refine seq_run0 (stp_fldP tyF38_3 rfl) ?_
                    refine seq_run2 (stp_store1 tyS3 rfl rfl rfl rfl) rfl ?_
                    refine awp_plain hN rfl ?_
                    refine seq_run0 (stp_move (.row _ _) rfl) ?_
                    refine seq_run1 (stp_loadA tyS38 rfl rfl rfl) rfl ?_
                    refine seq_run0 (stp_dat (u' := vlst (List.map C_api_Signer [(S_api_Signer.mk x42.Id x42.Secret x42.From (min x42.To v4) x42.Until)])) (stp_lit [_] tyL26 ⟨rfl, .inr rfl, rfl, trivial⟩ rfl rfl) rfl) ?_
                    obtain ⟨h46, H⟩ := gif H
                    refine seq_run2 (t_app tyL26 (fun _ => rfl) rfl rfl rfl ⟨by simp, by simpa using h46⟩ rfl) rfl ?_
                    refine seq_run0 (stp_assign (.row _ _) rfl) ?_
                    refine awp_plain hN rfl ?_
                    refine seq_run0 (stp_add rfl rfl (by omega)) ?_
                    refine seq_run0 (stp_move (.dat _) rfl) ?_
                    exact ⟨_, backl H, ⟨rfl, rfl, rfl, rfl, rfl, rfl, rfl, rfl, rfl, trivial⟩, ⟨rfl, trivial⟩⟩
theorem k_slices_Equal_L_api_Signer_api_Signer_ (s1 : (List S_api_Signer)) (s2 : (List S_api_Signer)) (r : (Bool)) (H : m_slices_Equal_L_api_Signer_api_Signer_ s1 s2 = some r) : Fn Try.prog 13 [vlst (List.map C_api_Signer s1), vlst (List.map C_api_Signer s2)] (resOf [vbool r]) := by
  refine ⟨by kernel_rfl, pure_of (us := [vbool r]) Try.func13 rfl rfl rfl rfl fun X hN => ?_⟩
  unfold m_slices_Equal_L_api_Signer_api_Signer_ at H
  refine awp_seq ?_
  refine awp_plain hN rfl ?_
  refine seq_run0 (stp_assign (.dat _) rfl) ?_
  refine awp_seq ?_
  refine awp_seq ?_
  refine awp_plain hN rfl ?_
  refine seq_run0 (stp_move (.dat _) rfl) ?_
  refine seq_run0 (t_len tyU26 rfl) ?_
  refine seq_run0 (stp_move (.dat _) rfl) ?_
  refine seq_run0 (t_len tyU26 rfl) ?_
  refine seq_run0 (stp_neq rfl rfl) ?_
  refine awp_cond _ rfl (fun h3 => ?_) (fun h3 => ?_)
  · replace H := ift h3 H
    refine awp_seq ?_
    refine awp_plain hN rfl ?_
    refine seq_run0 (stp_assign (.dat _) rfl) ?_
    refine awp_ret ?_
    cases H
    exact ⟨trivial, .inl rfl, trivial⟩
  · replace H := iff_ h3 H
    refine awp_skip ?_
    refine awp_seq ?_
    refine awp_seq ?_
    refine awp_plain hN rfl ?_
    refine seq_run0 (stp_move (.dat _) rfl) ?_
    refine seq_run0 (t_len tyU26 rfl) ?_
    refine seq_run0 (stp_move (.dat _) rfl) ?_
    refine awp_block ?_
    obtain ⟨h6, H⟩ := gif H
    refine awp_forL (fun (k4 : Nat) (s : Unit) => [(0, .dat (vlst (List.map C_api_Signer s1))), (1, .dat (vlst (List.map C_api_Signer s2))), (12, .dat (vint (s1.length : Int))), (13, .dat (vint (k4 : Int)))]) (fun (k4 : Nat) (s : Unit) => []) () H ⟨rfl, rfl, rfl, rfl, trivial⟩ trivial (fun _ _ => rfl) ?_ ?_
    · rintro ⟨⟩ H
      replace H : slices_Equal_L_api_Signer_api_Signer__E1 = some r := H
      unfold slices_Equal_L_api_Signer_api_Signer__E1 at H
      refine awp_seq ?_
      refine awp_plain hN rfl ?_
      refine seq_run0 (stp_lss rfl rfl) ?_
      refine awp_seq ?_
      refine awp_cond _ rfl (fun h => (lt_t h).elim) (fun h => ?_)
      refine awp_exit ?_
      refine awp_seq ?_
      refine awp_plain hN rfl ?_
      refine seq_run0 (stp_assign (.dat _) rfl) ?_
      refine awp_ret ?_
      cases H
      exact ⟨trivial, .inl rfl, trivial⟩
    · rintro k4 x7 ⟨⟩ q5 h8 h9 H hq5
      replace H : slices_Equal_L_api_Signer_api_Signer__L1 s2 k4 x7 = some q5 := H
      unfold slices_Equal_L_api_Signer_api_Signer__L1 at H
      refine awp_seq ?_
      refine awp_plain hN rfl ?_
      refine seq_run0 (stp_lss rfl rfl) ?_
      refine awp_seq ?_
      refine awp_cond _ rfl (fun h => ?_) (fun h => (lt_f h8 h).elim)
      refine awp_skip ?_
      refine awp_seq ?_
      refine awp_block ?_
      refine awp_seq ?_
      refine awp_plain hN rfl ?_
      refine seq_run0 (stp_move (.dat _) rfl) ?_
      refine seq_run0 (stp_assign (.dat _) rfl) ?_
      refine awp_seq ?_
      refine awp_draw mixed hN rfl rfl ?_
      refine seq_run0 (stp_move (.dat _) rfl) ?_
      refine seq_run0 (stp_move (.dat _) rfl) ?_
      refine seq_run0 (t_idx tyE26 (fun _ => rfl) rfl rfl h9) ?_
      refine seq_run0 (stp_loadEA tyS38 rfl (map_at h9) rfl) ?_
      refine seq_run0 (stp_move (.dat _) rfl) ?_
      refine seq_run0 (stp_move (.dat _) rfl) ?_
      obtain ⟨x10, h11, H⟩ := bnd H
      refine seq_run0 (t_idx tyE26 (fun _ => rfl) rfl rfl h11) ?_
      refine seq_run0 (stp_loadEA tyS38 rfl (map_at h11) rfl) ?_
      refine seq_run0 (stp_aneq [_, _, _, _, _] [_, _, _, _, _] tyQ38 rfl rfl rfl) ?_
      refine ⟨rfl, ?_⟩
      refine awp_cond _ rfl (fun h12 => ?_) (fun h12 => ?_)
      · replace H := ift h12 H
        refine awp_seq ?_
        refine awp_plain hN rfl ?_
        refine seq_run0 (stp_assign (.dat _) rfl) ?_
        refine awp_ret ?_
        replace H := retl H hq5
        cases H
        exact ⟨trivial, .inl rfl, trivial⟩
      · replace H := iff_ h12 H
        refine awp_skip ?_
        refine awp_plain hN rfl ?_
        refine seq_run0 (stp_add rfl rfl (by omega)) ?_
        refine seq_run0 (stp_move (.dat _) rfl) ?_
        exact ⟨_, backl H, ⟨rfl, rfl, rfl, rfl, trivial⟩, trivial⟩
theorem k_token_Encode (s1 : Bs) (r : (Bs)) (H : m_token_Encode s1 = some r) : Fn Try.prog 38 [vstr s1] (resOf [vstr r]) := by
  refine ⟨by kernel_rfl, pure_of (us := [vstr r]) Try.func38 rfl rfl rfl rfl fun X hN => ?_⟩
  unfold m_token_Encode at H
  refine awp_seq ?_
  refine awp_plain hN rfl ?_
  refine seq_run0 (stp_assign (.dat _) rfl) ?_
  refine awp_seq ?_
  refine awp_plain hN rfl ?_
  refine seq_run0 (stp_assign (.dat _) rfl) ?_
  refine awp_joinE (ι := (List Int)) (fun i => [(3, .row 1 i.length)]) (fun i => [(1, .row 5 1 (List.map C_uint8 i))]) (fun i => token_Encode_J1 i = some r) (fun i => rfl) ?_ ?_
  · skip
    refine awp_block ?_
    refine awp_nilrow 3 1 5 1 rfl rfl rfl ?_
    refine awp_iter (fun (s : Bs × (List Int)) => [(0, .dat (vstr s.1)), (3, .row 1 s.2.length)]) (fun (s : Bs × (List Int)) => [(1, .row 5 1 (List.map C_uint8 s.2))]) (s1, []) H ⟨rfl, congrArg (Slot.row 1) (by simp), trivial⟩ ⟨rfl, trivial⟩ (fun _ => rfl) ?_
    rintro ⟨s2, l3⟩ q4 H hq4
    replace H : token_Encode_L2 s2 l3 = some q4 := H
    unfold token_Encode_L2 at H
    refine awp_seq ?_
    refine awp_seq ?_
    refine awp_plain hN rfl ?_
    refine seq_run0 (stp_move (.dat _) rfl) ?_
    refine seq_run0 (stp_len_str tyU9 rfl) ?_
    refine seq_run0 (stp_gtr rfl rfl) ?_
    refine awp_cond _ rfl (fun h5 => ?_) (fun h5 => ?_)
    · replace H := ift h5 H
      refine awp_skip ?_
      refine awp_block ?_
      refine awp_seq ?_
      refine awp_plain hN rfl ?_
      refine seq_run0 (stp_move (.dat _) rfl) ?_
      refine seq_run0 (stp_len_str tyU9 rfl) ?_
      refine seq_run0 (stp_min rfl rfl) ?_
      refine seq_run0 (stp_assign (.dat _) rfl) ?_
      refine awp_seq ?_
      refine awp_plain hN rfl ?_
      refine seq_run0 (stp_assign (.dat _) rfl) ?_
      refine awp_seq ?_
      refine awp_seq ?_
      refine awp_plain hN rfl ?_
      refine seq_run0 (stp_move (.dat _) rfl) ?_
      refine awp_block ?_
      obtain ⟨h9, H⟩ := gif H
      refine awp_rng (fun (k7 : Nat) (s : Int) => [(0, .dat (vstr s2)), (3, .row 1 l3.length), (4, .dat (vint (min 3 (s2.length : Int)))), (5, .dat (vint s)), (14, .dat (vint (k7 : Int)))]) (fun (k7 : Nat) (s : Int) => [(1, .row 5 1 (List.map C_uint8 l3))]) 0 H ⟨rfl, rfl, rfl, rfl, rfl, trivial⟩ ⟨rfl, trivial⟩ (fun _ _ => rfl) ?_ ?_
      · rintro x6 H
        replace H : token_Encode_E3 s2 l3 x6 = some q4 := H
        unfold token_Encode_E3 at H
        refine awp_seq ?_
        refine awp_plain hN rfl ?_
        refine seq_run0 (stp_lss rfl rfl) ?_
        refine awp_seq ?_
        refine awp_cond _ rfl (fun h => (lt_t h).elim) (fun h => ?_)
        refine awp_exit ?_
        refine awp_seq ?_
        refine awp_seq ?_
        refine awp_plain hN rfl ?_
        refine seq_run0 (stp_move (.dat _) rfl) ?_
        refine seq_run0 (stp_wrap _ rfl rfl (.inl ⟨rfl, rfl⟩)) ?_
        refine seq_run0 (stp_move (.dat _) rfl) ?_
        refine awp_block ?_
        obtain ⟨h13, H⟩ := gif H
        refine awp_rng (fun (k11 : Nat) (s : (List Int)) => [(0, .dat (vstr s2)), (3, .row 1 s.length), (4, .dat (vint (min 3 (s2.length : Int)))), (5, .dat (vint x6)), (30, .dat (vint (wr ((min 3 (s2.length : Int)) + 1)))), (31, .dat (vint (k11 : Int)))]) (fun (k11 : Nat) (s : (List Int)) => [(1, .row 5 1 (List.map C_uint8 s))]) l3 H ⟨rfl, rfl, rfl, rfl, rfl, rfl, trivial⟩ ⟨rfl, trivial⟩ (fun _ _ => rfl) ?_ ?_
        · rintro l10 H
          replace H : token_Encode_E4 s2 l10 = some q4 := H
          unfold token_Encode_E4 at H
          refine awp_seq ?_
          refine awp_plain hN rfl ?_
          refine seq_run0 (stp_lss rfl rfl) ?_
          refine awp_seq ?_
          refine awp_cond _ rfl (fun h => (lt_tI h).elim) (fun h => ?_)
          refine awp_exit ?_
          refine awp_plain hN rfl ?_
          refine seq_run0 (stp_move (.dat _) rfl) ?_
          refine seq_run0 (stp_move (.dat _) rfl) ?_
          obtain ⟨l14, h15, H⟩ := bnd H
          refine seq_run0 (t_subS tyU9 rfl rfl rfl h15) ?_
          refine seq_run0 (stp_assign (.dat _) rfl) ?_
          exact ⟨_, backl H, ⟨rfl, rfl, trivial⟩, ⟨rfl, trivial⟩⟩
        · rintro k11 l10 q12 h16 H hq12
          replace H : token_Encode_L4 x6 k11 l10 = some q12 := H
          unfold token_Encode_L4 at H
          refine awp_seq ?_
          refine awp_plain hN rfl ?_
          refine seq_run0 (stp_lss rfl rfl) ?_
          refine awp_seq ?_
          refine awp_cond _ rfl (fun h => ?_) (fun h => (lt_fI h16 h).elim)
          refine awp_skip ?_
          refine awp_seq ?_
          refine awp_block ?_
          refine awp_seq ?_
          refine awp_plain hN rfl ?_
          refine seq_run0 (stp_move (.dat _) rfl) ?_
          refine seq_run0 (stp_assign (.dat _) rfl) ?_
          refine awp_plain hN rfl ?_
          refine seq_run0 (stp_move (.row _ _) rfl) ?_
          refine seq_run0 (stp_move (.dat _) rfl) ?_
          refine seq_run0 (stp_move (.dat _) rfl) ?_
          refine seq_run0 (stp_wrap _ rfl rfl (.inr (.inr ⟨rfl, rfl⟩))) ?_
          refine seq_run0 (stp_wrap _ rfl rfl (.inr (.inl ⟨rfl, rfl⟩))) ?_
          obtain ⟨h17, H⟩ := gif H
          refine seq_run0 (stp_dat (stp_shr rfl rfl h17) rfl) ?_
          refine seq_run0 (stp_dat (stp_and rfl rfl) rfl) ?_
          obtain ⟨x18, h19, H⟩ := bnd H
          refine seq_run0 (t_byteI tyU9 rfl rfl h19) ?_
          refine seq_run0 (stp_dat (u' := vlst (List.map C_uint8 [(x18.toNat : Int)])) (stp_lit [[_]] tyL81 ⟨rfl, .inl ⟨_, rfl, rfl, rfl⟩, rfl, trivial⟩ rfl rfl) rfl) ?_
          obtain ⟨h20, H⟩ := gif H
          refine seq_run2 (t_app tyL81 (fun _ => rfl) rfl rfl rfl ⟨by simp, by simpa using h20⟩ rfl) rfl ?_
          refine seq_run0 (stp_assign (.row _ _) rfl) ?_
          refine awp_plain hN rfl ?_
          refine seq_run0 (stp_add rfl rfl (by omega)) ?_
          refine seq_run0 (stp_move (.dat _) rfl) ?_
          exact ⟨_, backl H, ⟨rfl, rfl, rfl, rfl, rfl, rfl, trivial⟩, ⟨rfl, trivial⟩⟩
      · rintro k7 x6 q8 h21 H hq8
        replace H : token_Encode_L3 s2 k7 x6 = some q8 := H
        unfold token_Encode_L3 at H
        refine awp_seq ?_
        refine awp_plain hN rfl ?_
        refine seq_run0 (stp_lss rfl rfl) ?_
        refine awp_seq ?_
        refine awp_cond _ rfl (fun h => ?_) (fun h => (lt_f h21 h).elim)
        refine awp_skip ?_
        refine awp_joinE (ι := Int) (fun i => [(0, .dat (vstr s2)), (3, .row 1 l3.length), (4, .dat (vint (min 3 (s2.length : Int)))), (5, .dat (vint i)), (14, .dat (vint (k7 : Int)))]) (fun i => [(1, .row 5 1 (List.map C_uint8 l3))]) (fun i => token_Encode_J5 i = some q8) (fun i => rfl) ?_ ?_
        · skip
          refine awp_block ?_
          refine awp_seq ?_
          refine awp_plain hN rfl ?_
          refine seq_run0 (stp_move (.dat _) rfl) ?_
          refine seq_run0 (stp_assign (.dat _) rfl) ?_
          refine awp_seq ?_
          refine awp_plain hN rfl ?_
          refine seq_run0 (stp_move (.dat _) rfl) ?_
          refine seq_run0 (stp_dat (stp_shl rfl rfl (by decide)) rfl) ?_
          refine seq_run0 (stp_assign (.dat _) rfl) ?_
          refine awp_seq ?_
          refine awp_plain hN rfl ?_
          refine seq_run0 (stp_move (.dat _) rfl) ?_
          refine seq_run0 (stp_move (.dat _) rfl) ?_
          refine seq_run0 (stp_lss rfl rfl) ?_
          refine awp_cond _ rfl (fun h22 => ?_) (fun h22 => ?_)
          · replace H := ift h22 H
            refine awp_plain hN rfl ?_
            refine seq_run0 (stp_move (.dat _) rfl) ?_
            refine seq_run0 (stp_move (.dat _) rfl) ?_
            refine seq_run0 (stp_move (.dat _) rfl) ?_
            obtain ⟨x23, h24, H⟩ := bnd H
            refine seq_run0 (t_byte tyU9 rfl rfl h24) ?_
            refine seq_run0 (stp_conv tyU5 tyU3 rfl) ?_
            refine seq_run0 (stp_dat (stp_or rfl rfl) rfl) ?_
            refine seq_run0 (stp_assign (.dat _) rfl) ?_
            exact ⟨(or_ .i64 (shl_ .i64 x6 8) (IntKind.wrap .i64 (x23.toNat : Int))), H, ⟨rfl, rfl, rfl, rfl, rfl, trivial⟩, ⟨rfl, trivial⟩⟩
          · replace H := iff_ h22 H
            refine awp_skip ?_
            exact ⟨(shl_ .i64 x6 8), H, ⟨rfl, rfl, rfl, rfl, rfl, trivial⟩, ⟨rfl, trivial⟩⟩
        · rintro x25 H
          replace H : token_Encode_J5 x25 = some q8 := H
          unfold token_Encode_J5 at H
          refine awp_plain hN rfl ?_
          refine seq_run0 (stp_add rfl rfl (by omega)) ?_
          refine seq_run0 (stp_move (.dat _) rfl) ?_
          exact ⟨_, backl H, ⟨rfl, rfl, rfl, rfl, rfl, trivial⟩, ⟨rfl, trivial⟩⟩
    · replace H := iff_ h5 H
      refine awp_exit ?_
      replace H := outl H hq4
      exact ⟨l3, H, ⟨rfl, trivial⟩, ⟨rfl, trivial⟩⟩
  · rintro out26 H
    replace H : token_Encode_J1 out26 = some r := H
    unfold token_Encode_J1 at H
    refine awp_seq ?_
    refine t_freeze 3 1 rfl rfl rfl ?_
    refine awp_plain hN rfl ?_
    refine seq_run0 (stp_move (.dat _) rfl) ?_
    refine seq_run0 (stp_convB (C := C_uint8) tyU81 tyU5 tyU9 (fun _ => rfl) rfl) ?_
    refine seq_run0 (stp_assign (.dat _) rfl) ?_
    refine awp_ret ?_
    cases H
    exact ⟨trivial, .inl rfl, trivial⟩
theorem k_gatelaw2_signed  (r : (Bool)) (H : m_gatelaw2_signed  = some r) : Fn Try.prog 14 [] (resOf [vbool r]) := by
  refine ⟨by kernel_rfl, pure_of (us := [vbool r]) Try.func14 rfl rfl rfl rfl fun X hN => ?_⟩
  unfold m_gatelaw2_signed at H
  refine awp_seq ?_
  refine awp_plain hN rfl ?_
  refine seq_run0 (stp_assign (.dat _) rfl) ?_
  refine awp_seq ?_
  refine awp_plain hN rfl ?_
  obtain ⟨r1, h2, H⟩ := bnd H
  refine seq_run0 (stp_call (k_token_Encode [97, 98] r1 h2) ⟨.inl rfl, trivial⟩) ?_
  refine seq_run0 (stp_seql rfl rfl) ?_
  refine seq_run0 (stp_assign (.dat _) rfl) ?_
  refine awp_ret ?_
  cases H
  exact ⟨trivial, .inl rfl, trivial⟩
theorem k_gatelaw2_SignersRotate (v1 : (List Int)) (r : (Bool)) (H : m_gatelaw2_SignersRotate v1 = some r) : Fn Try.prog 3 [vlst (List.map C_int v1)] (resOf [vbool r]) := by
  refine ⟨by kernel_rfl, pure_of (us := [vbool r]) Try.func3 rfl rfl rfl rfl fun X hN => ?_⟩
  unfold m_gatelaw2_SignersRotate at H
  refine awp_seq ?_
  refine awp_plain hN rfl ?_
  refine seq_run0 (stp_assign (.dat _) rfl) ?_
  refine awp_seq ?_
  refine awp_plain hN rfl ?_
  refine seq_run0 (stp_move (.dat _) rfl) ?_
  refine seq_run0 (stp_dat (u' := vagg (C_gatemake_Stream (S_gatemake_Stream.mk v1 0))) (stp_build [(0, [vlst (List.map C_int v1)])] tyZ25 tyP25 rfl ⟨rfl, .inl ⟨_, rfl, rfl, rfl⟩, rfl, trivial⟩) rfl) ?_
  refine seq_run2 (stp_boxA 1 rfl) rfl ?_
  refine seq_run0 (stp_assign (.ptr _ _) rfl) ?_
  refine awp_seq ?_
  refine awp_plain hN rfl ?_
  refine seq_run0 (stp_move (.ptr _ _) rfl) ?_
  obtain ⟨r2, h3, H⟩ := bnd H
  refine seq_run2 (stp_imp (k_gatemake_Stream_Signers (S_gatemake_Stream.mk v1 0) r2 h3) rfl trivial rfl) rfl ?_
  refine seq_run0 (stp_move (.ptr _ _) rfl) ?_
  refine seq_run0 (stp_dat (u' := vlst (List.map C_string [[115, 52], [115, 52], [115, 53], [115, 49], [], [65]])) (stp_lit [[_], [_], [_], [_], [_], [_]] tyL59 ⟨rfl, .inl ⟨_, rfl, rfl, rfl⟩, rfl, rfl, .inl ⟨_, rfl, rfl, rfl⟩, rfl, rfl, .inl ⟨_, rfl, rfl, rfl⟩, rfl, rfl, .inl ⟨_, rfl, rfl, rfl⟩, rfl, rfl, .inl ⟨_, rfl, rfl, rfl⟩, rfl, rfl, .inl ⟨_, rfl, rfl, rfl⟩, rfl, trivial⟩ rfl rfl) rfl) ?_
  obtain ⟨r4, h5, H⟩ := bnd H
  refine seq_run2 (stp_imp (k_gatemake_Stream_Some r2.2 ([[115, 52], [115, 52], [115, 53], [115, 49], [], [65]]) r4 h5) rfl ⟨.inl rfl, trivial⟩ rfl) rfl ?_
  refine seq_run0 (stp_move (.ptr _ _) rfl) ?_
  obtain ⟨r6, h7, H⟩ := bnd H
  refine seq_run2 (stp_imp (k_gatemake_Stream_Secret r4.2 r6 h7) rfl trivial rfl) rfl ?_
  refine seq_run0 (stp_assign (.dat _) rfl) ?_
  refine seq_run0 (stp_assign (.dat _) rfl) ?_
  refine seq_run0 (stp_assign (.dat _) rfl) ?_
  refine awp_seq ?_
  refine awp_plain hN rfl ?_
  refine seq_run0 (stp_move (.ptr _ _) rfl) ?_
  obtain ⟨r8, h9, H⟩ := bnd H
  refine seq_run2 (stp_imp (k_gatemake_Stream_Moment r6.2 r8 h9) rfl trivial rfl) rfl ?_
  refine seq_run0 (stp_move (.ptr _ _) rfl) ?_
  refine seq_run0 (stp_dat (u' := vlst (List.map C_int [1, 10, 100, 345686400000, 0, 345686400001])) (stp_lit [[_], [_], [_], [_], [_], [_]] tyL22 ⟨rfl, .inl ⟨_, rfl, rfl, rfl⟩, rfl, rfl, .inl ⟨_, rfl, rfl, rfl⟩, rfl, rfl, .inl ⟨_, rfl, rfl, rfl⟩, rfl, rfl, .inl ⟨_, rfl, rfl, rfl⟩, rfl, rfl, .inl ⟨_, rfl, rfl, rfl⟩, rfl, rfl, .inl ⟨_, rfl, rfl, rfl⟩, rfl, trivial⟩ rfl rfl) rfl) ?_
  obtain ⟨r10, h11, H⟩ := bnd H
  refine seq_run2 (stp_imp (k_gatemake_Stream_Pick r8.2 [1, 10, 100, 345686400000, 0, 345686400001] r10 h11) rfl ⟨.inl rfl, trivial⟩ rfl) rfl ?_
  refine seq_run0 (stp_move (.ptr _ _) rfl) ?_
  refine seq_run0 (stp_dat (u' := vlst (List.map C_int [0, 5, 100, 345686400000, (-1)])) (stp_lit [[_], [_], [_], [_], [_]] tyL22 ⟨rfl, .inl ⟨_, rfl, rfl, rfl⟩, rfl, rfl, .inl ⟨_, rfl, rfl, rfl⟩, rfl, rfl, .inl ⟨_, rfl, rfl, rfl⟩, rfl, rfl, .inl ⟨_, rfl, rfl, rfl⟩, rfl, rfl, .inl ⟨_, rfl, rfl, rfl⟩, rfl, trivial⟩ rfl rfl) rfl) ?_
  obtain ⟨r12, h13, H⟩ := bnd H
  refine seq_run2 (stp_imp (k_gatemake_Stream_Pick r10.2 [0, 5, 100, 345686400000, (-1)] r12 h13) rfl ⟨.inl rfl, trivial⟩ rfl) rfl ?_
  refine seq_run0 (stp_assign (.dat _) rfl) ?_
  refine seq_run0 (stp_assign (.dat _) rfl) ?_
  refine seq_run0 (stp_assign (.dat _) rfl) ?_
  refine awp_seq ?_
  refine awp_plain hN rfl ?_
  refine seq_run0 (stp_move (.dat _) rfl) ?_
  refine seq_run0 (stp_move (.dat _) rfl) ?_
  refine seq_run0 (stp_move (.dat _) rfl) ?_
  refine seq_run0 (stp_move (.dat _) rfl) ?_
  refine seq_run0 (stp_move (.dat _) rfl) ?_
  refine seq_run0 (stp_move (.dat _) rfl) ?_
  obtain ⟨r14, h15, H⟩ := bnd H
  refine seq_run0 (stp_call (k_token_Rotate r2.1 r4.1 r6.1 r8.1 r10.1 r12.1 r14 h15) ⟨.inl rfl, .inl rfl, .inl rfl, .inl rfl, .inl rfl, .inl rfl, trivial⟩) ?_
  refine seq_run0 (stp_move (.dat _) rfl) ?_
  refine seq_run0 (stp_ext rfl rfl) ?_
  refine seq_run0 (stp_ext rfl rfl) ?_
  refine seq_run0 (stp_assign (.dat _) rfl) ?_
  refine seq_run0 (stp_assign (.dat _) rfl) ?_
  refine awp_seq ?_
  refine awp_plain hN rfl ?_
  refine seq_run0 (stp_move (.dat _) rfl) ?_
  obtain ⟨r16, h17, H⟩ := bnd H
  refine seq_run0 (stp_call (k_gateref2_SignersFault r2.1 r16 h17) ⟨.inl rfl, trivial⟩) ?_
  refine seq_run0 (stp_assign (.dat _) rfl) ?_
  refine awp_seq ?_
  refine awp_plain hN rfl ?_
  refine seq_run0 (stp_assign (.dat _) rfl) ?_
  refine awp_joinW (ι := Int × (List S_api_Signer)) (fun i => [(10, .dat (vlst (List.map C_api_Signer r14.1))), (11, .dat (vint r14.2)), (12, .dat (vint i.1)), (13, .dat (vlst (List.map C_api_Signer i.2)))]) (fun i => []) (fun i => gatelaw2_SignersRotate_J1 r14 i.1 i.2 = some r) (fun i => rfl) (fun i => rfl) ?_ ?_
  · skip
    refine awp_seq ?_
    refine awp_plain hN rfl ?_
    refine seq_run0 (stp_move (.dat _) rfl) ?_
    refine seq_run0 (stp_eql rfl rfl) ?_
    refine awp_cond _ rfl (fun h18 => ?_) (fun h18 => ?_)
    · replace H := ift h18 H
      refine awp_plain hN rfl ?_
      refine seq_run0 (stp_move (.dat _) rfl) ?_
      refine seq_run0 (stp_move (.dat _) rfl) ?_
      refine seq_run0 (stp_move (.dat _) rfl) ?_
      refine seq_run0 (stp_move (.dat _) rfl) ?_
      refine seq_run0 (stp_move (.dat _) rfl) ?_
      refine seq_run0 (stp_move (.dat _) rfl) ?_
      obtain ⟨r19, h20, H⟩ := bnd H
      refine seq_run0 (stp_call (k_gateref2_RotateOf r2.1 r4.1 r6.1 r8.1 r10.1 r12.1 r19 h20) ⟨.inl rfl, .inl rfl, .inl rfl, .inl rfl, .inl rfl, .inl rfl, trivial⟩) ?_
      refine seq_run0 (stp_move (.dat _) rfl) ?_
      refine seq_run0 (stp_ext rfl rfl) ?_
      refine seq_run0 (stp_ext rfl rfl) ?_
      refine seq_run0 (stp_assign (.dat _) rfl) ?_
      refine seq_run0 (stp_assign (.dat _) rfl) ?_
      exact ⟨(r19.2, r19.1), H, ⟨.inl rfl, .inl rfl, .inl rfl, .inl rfl, trivial⟩, trivial⟩
    · replace H := iff_ h18 H
      refine awp_skip ?_
      exact ⟨(r16, []), H, ⟨.inl rfl, .inl rfl, .inl rfl, .inr ⟨rfl, rfl⟩, trivial⟩, trivial⟩
  · rintro ⟨v21, v22⟩ H
    replace H : gatelaw2_SignersRotate_J1 r14 v21 v22 = some r := H
    unfold gatelaw2_SignersRotate_J1 at H
    refine awp_joinE (ι := Bool) (fun i => [(2, .dat (vbool i))]) (fun i => []) (fun i => gatelaw2_SignersRotate_J2 i = some r) (fun i => rfl) ?_ ?_
    · skip
      refine awp_plain hN rfl ?_
      refine seq_run0 (stp_move (.dat _) rfl) ?_
      refine seq_run0 (stp_move (.dat _) rfl) ?_
      refine seq_run0 (stp_eql rfl rfl) ?_
      refine seq_run0 (stp_move (.dat _) rfl) ?_
      refine seq_split (j := 3) rfl rfl (fun h23 => ?_) (fun h23 => ?_) rfl
      · have h24 := un1 h23
        replace H := ift h24 H
        refine seq_g0 rfl rfl h23 (stp_move (.dat _) rfl) ?_
        refine seq_g0 rfl rfl h23 (stp_move (.dat _) rfl) ?_
        obtain ⟨r25, h26, H⟩ := bnd H
        refine seq_g0 rfl rfl h23 (stp_call (k_slices_Equal_L_api_Signer_api_Signer_ r14.1 v22 r25 h26) ⟨.inl rfl, .inl rfl, trivial⟩) ?_
        refine seq_run0 (stp_pick_t rfl (bTT h24) rfl) ?_
        refine seq_run0 (stp_move (.dat _) rfl) ?_
        refine seq_split (j := 8) rfl rfl (fun h27 => ?_) (fun h27 => ?_) rfl
        · have h28 := un1 h27
          replace H := ift h28 H
          obtain ⟨r29, h30, H⟩ := bnd H
          refine seq_g0 rfl rfl h27 (stp_call (k_gatelaw2_signed  r29 h30) trivial) ?_
          refine seq_run0 (stp_pick_t rfl (bTT h28) rfl) ?_
          refine seq_run0 (stp_assign (.dat _) rfl) ?_
          exact ⟨r29, H, ⟨rfl, trivial⟩, trivial⟩
        · have h31 := un2 h27
          replace H := iff_ h31 H
          refine seq_skip rfl rfl h27 ?_
          refine seq_run0 (stp_pick_f rfl (bFF h31) rfl) ?_
          refine seq_run0 (stp_assign (.dat _) rfl) ?_
          exact ⟨false, H, ⟨rfl, trivial⟩, trivial⟩
      · have h32 := un2 h23
        replace H := iff_ h32 H
        refine seq_skip rfl rfl h23 ?_
        refine seq_skip rfl rfl h23 ?_
        refine seq_skip rfl rfl h23 ?_
        refine seq_run0 (stp_pick_f rfl (bFF h32) rfl) ?_
        refine seq_run0 (stp_move (.dat _) rfl) ?_
        refine seq_skip rfl rfl rfl ?_
        refine seq_run0 (stp_pick_f rfl rfl rfl) ?_
        refine seq_run0 (stp_assign (.dat _) rfl) ?_
        exact ⟨false, H, ⟨rfl, trivial⟩, trivial⟩
    · rintro v33 H
      replace H : gatelaw2_SignersRotate_J2 v33 = some r := H
      unfold gatelaw2_SignersRotate_J2 at H
      refine awp_ret ?_
      cases H
      exact ⟨trivial, .inl rfl, trivial⟩
end Go.Proofs.Ytpeeeanmfmhlgaa
