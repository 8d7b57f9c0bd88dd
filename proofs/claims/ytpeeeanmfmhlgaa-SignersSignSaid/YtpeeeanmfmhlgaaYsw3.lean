/- Walks along the models. Printed by a program. -/
import Derived.Test.YtpeeeanmfmhlgaaYsw2
namespace Go.Proofs.Ytpeeeanmfmhlgaa
open Go.RowKit
set_option linter.unusedVariables false
set_option maxRecDepth 20000
theorem k_gatelaw2_SignersSign (v1 : (List Int)) (r : (Bool)) (H : m_gatelaw2_SignersSign v1 = some r) : Fn Try.prog 4 [vlst (List.map C_int v1)] (resOf [vbool r]) := by
  refine ⟨by kernel_rfl, pure_of (us := [vbool r]) Try.func4 rfl rfl rfl rfl fun X hN => ?_⟩
  unfold m_gatelaw2_SignersSign at H
  refine awp_seq ?_
  refine awp_plain hN rfl ?_
  refine seq_run0 (stp_assign (.dat _) rfl) ?_
  refine awp_seq ?_
  refine awp_plain hN rfl ?_
  refine seq_run0 (stp_move (.dat _) rfl) ?_
  refine seq_run0 (stp_dat (u' := vagg (C_gatemake_Stream (S_gatemake_Stream.mk v1 0))) (stp_build [(0, [vlst (List.map C_int v1)])] tyZ25 tyP25 rfl ⟨rfl, .inl ⟨_, rfl, rfl, rfl⟩, rfl, trivial⟩) rfl) ?_
  refine seq_run2 (stp_boxA 1 rfl) rfl ?_
  refine seq_run0 (stp_assign (.ptr _ _) rfl) ?_
  refine awp_seq ?_
  refine awp_plain hN rfl ?_
  refine seq_run0 (stp_move (.ptr _ _) rfl) ?_
  obtain ⟨r2, h3, H⟩ := bnd H
  refine seq_run2 (stp_imp (k_gatemake_Stream_Signers (S_gatemake_Stream.mk v1 0) r2 h3) rfl trivial rfl) rfl ?_
  refine seq_run0 (stp_move (.ptr _ _) rfl) ?_
  obtain ⟨r4, h5, H⟩ := bnd H
  refine seq_run2 (stp_imp (k_gatemake_Stream_Moment r2.2 r4 h5) rfl trivial rfl) rfl ?_
  refine seq_run0 (stp_move (.ptr _ _) rfl) ?_
  refine seq_run0 (stp_dat (u' := vlst (List.map C_int [0, 1, 5, 50, 100, 1000, (-1), 345686400001])) (stp_lit [[_], [_], [_], [_], [_], [_], [_], [_]] tyL22 ⟨rfl, .inl ⟨_, rfl, rfl, rfl⟩, rfl, rfl, .inl ⟨_, rfl, rfl, rfl⟩, rfl, rfl, .inl ⟨_, rfl, rfl, rfl⟩, rfl, rfl, .inl ⟨_, rfl, rfl, rfl⟩, rfl, rfl, .inl ⟨_, rfl, rfl, rfl⟩, rfl, rfl, .inl ⟨_, rfl, rfl, rfl⟩, rfl, rfl, .inl ⟨_, rfl, rfl, rfl⟩, rfl, rfl, .inl ⟨_, rfl, rfl, rfl⟩, rfl, trivial⟩ rfl rfl) rfl) ?_
  obtain ⟨r6, h7, H⟩ := bnd H
  refine seq_run2 (stp_imp (k_gatemake_Stream_Pick r4.2 [0, 1, 5, 50, 100, 1000, (-1), 345686400001] r6 h7) rfl ⟨.inl rfl, trivial⟩ rfl) rfl ?_
  refine seq_run0 (stp_assign (.dat _) rfl) ?_
  refine seq_run0 (stp_assign (.dat _) rfl) ?_
  refine seq_run0 (stp_assign (.dat _) rfl) ?_
  refine awp_seq ?_
  refine awp_plain hN rfl ?_
  refine seq_run0 (stp_move (.ptr _ _) rfl) ?_
  refine seq_run0 (stp_dat (u' := vlst (List.map C_int [0, 10, 60])) (stp_lit [[_], [_], [_]] tyL22 ⟨rfl, .inl ⟨_, rfl, rfl, rfl⟩, rfl, rfl, .inl ⟨_, rfl, rfl, rfl⟩, rfl, rfl, .inl ⟨_, rfl, rfl, rfl⟩, rfl, trivial⟩ rfl rfl) rfl) ?_
  obtain ⟨r8, h9, H⟩ := bnd H
  refine seq_run2 (stp_imp (k_gatemake_Stream_Pick r6.2 [0, 10, 60] r8 h9) rfl ⟨.inl rfl, trivial⟩ rfl) rfl ?_
  refine seq_run0 (stp_move (.ptr _ _) rfl) ?_
  refine seq_run0 (stp_dat (u' := vlst (List.map C_int [60, 100, 300, 1000])) (stp_lit [[_], [_], [_], [_]] tyL22 ⟨rfl, .inl ⟨_, rfl, rfl, rfl⟩, rfl, rfl, .inl ⟨_, rfl, rfl, rfl⟩, rfl, rfl, .inl ⟨_, rfl, rfl, rfl⟩, rfl, rfl, .inl ⟨_, rfl, rfl, rfl⟩, rfl, trivial⟩ rfl rfl) rfl) ?_
  obtain ⟨r10, h11, H⟩ := bnd H
  refine seq_run2 (stp_imp (k_gatemake_Stream_Pick r8.2 [60, 100, 300, 1000] r10 h11) rfl ⟨.inl rfl, trivial⟩ rfl) rfl ?_
  refine seq_run0 (stp_dat (u' := vagg (C_api_Window (S_api_Window.mk r8.1 r10.1))) (stp_build [(0, [vint r8.1]), (1, [vint r10.1])] tyZ42 tyP42 rfl ⟨rfl, .inl ⟨_, rfl, rfl, rfl⟩, rfl, rfl, .inl ⟨_, rfl, rfl, rfl⟩, rfl, trivial⟩) rfl) ?_
  refine seq_run2 (stp_alloc 2 tyZ42 rfl) rfl ?_
  refine seq_run2 (stp_storeW tyS42 rfl rfl rfl rfl) rfl ?_
  refine awp_joinE (ι := Int × Int) (fun i => [(4, .dat (vlst (List.map C_api_Signer r2.1))), (5, .dat (vint r4.1)), (6, .dat (vint r6.1)), (7, .ptr 2 0)]) (fun i => [(2, .box none 42 [.dat (vint i.1), .dat (vint i.2)])]) (fun i => gatelaw2_SignersSign_J1 r2 r4 r6 i.1 i.2 = some r) (fun i => rfl) ?_ ?_
  · skip
    refine awp_seq ?_
    refine awp_plain hN rfl ?_
    refine seq_run0 (stp_move (.ptr _ _) rfl) ?_
    obtain ⟨r12, h13, H⟩ := bnd H
    refine seq_run2 (stp_imp (k_gatemake_Stream_Flip r10.2 12 r12 h13) rfl ⟨.inl rfl, trivial⟩ rfl) rfl ?_
    refine awp_cond _ rfl (fun h14 => ?_) (fun h14 => ?_)
    · replace H := ift h14 H
      refine awp_plain hN rfl ?_
      refine seq_run0 (stp_move (.ptr _ _) rfl) ?_
      obtain ⟨r15, h16, H⟩ := bnd H
      refine seq_run2 (stp_imp (k_gatemake_Stream_Odd r12.2 0 100 r15 h16) rfl ⟨.inl rfl, .inl rfl, trivial⟩ rfl) rfl ?_
      refine seq_run0 (stp_move (.ptr _ _) rfl) ?_
      obtain ⟨r17, h18, H⟩ := bnd H
      refine seq_run2 (stp_imp (k_gatemake_Stream_Odd r15.2 0 1000 r17 h18) rfl ⟨.inl rfl, .inl rfl, trivial⟩ rfl) rfl ?_
      refine seq_run0 (stp_dat (u' := vagg (C_api_Window (S_api_Window.mk r15.1 r17.1))) (stp_build [(0, [vint r15.1]), (1, [vint r17.1])] tyZ42 tyP42 rfl ⟨rfl, .inl ⟨_, rfl, rfl, rfl⟩, rfl, rfl, .inl ⟨_, rfl, rfl, rfl⟩, rfl, trivial⟩) rfl) ?_
      refine seq_run2 (stp_storeW tyS42 rfl rfl rfl rfl) rfl ?_
      exact ⟨(r15.1, r17.1), H, ⟨rfl, rfl, rfl, rfl, trivial⟩, ⟨rfl, trivial⟩⟩
    · replace H := iff_ h14 H
      refine awp_skip ?_
      exact ⟨(r8.1, r10.1), H, ⟨rfl, rfl, rfl, rfl, trivial⟩, ⟨rfl, trivial⟩⟩
  · rintro ⟨c19, c20⟩ H
    replace H : gatelaw2_SignersSign_J1 r2 r4 r6 c19 c20 = some r := H
    unfold gatelaw2_SignersSign_J1 at H
    refine awp_seq ?_
    refine awp_plain hN rfl ?_
    refine seq_run0 (stp_move (.dat _) rfl) ?_
    refine seq_run0 (stp_move (.dat _) rfl) ?_
    obtain ⟨r21, h22, H⟩ := bnd H
    refine seq_run0 (stp_call (k_token_SignerAt r2.1 r4.1 r21 h22) ⟨.inl rfl, .inl rfl, trivial⟩) ?_
    refine seq_run0 (stp_move (.dat _) rfl) ?_
    refine seq_run0 (stp_ext rfl rfl) ?_
    refine seq_run0 (stp_ext rfl rfl) ?_
    refine seq_run0 (stp_assign (.dat _) rfl) ?_
    refine seq_run0 (stp_assign (.dat _) rfl) ?_
    refine awp_seq ?_
    refine awp_plain hN rfl ?_
    refine seq_run0 (stp_move (.dat _) rfl) ?_
    refine seq_run1 (stp_loadA tyS42 rfl rfl rfl) rfl ?_
    refine seq_run0 (stp_move (.dat _) rfl) ?_
    obtain ⟨r23, h24, H⟩ := bnd H
    refine seq_run0 (stp_call (k_token_Uncovered r2.1 (S_api_Window.mk c19 c20) r6.1 r23 h24) ⟨.inl rfl, .inl rfl, .inl rfl, trivial⟩) ?_
    refine seq_run0 (stp_move (.dat _) rfl) ?_
    refine seq_run0 (stp_ext rfl rfl) ?_
    refine seq_run0 (stp_ext rfl rfl) ?_
    refine seq_run0 (stp_assign (.dat _) rfl) ?_
    refine seq_run0 (stp_assign (.dat _) rfl) ?_
    refine awp_seq ?_
    refine awp_plain hN rfl ?_
    refine seq_run0 (stp_move (.dat _) rfl) ?_
    obtain ⟨r25, h26, H⟩ := bnd H
    refine seq_run0 (stp_call (k_gateref2_SignersFault r2.1 r25 h26) ⟨.inl rfl, trivial⟩) ?_
    refine seq_run0 (stp_assign (.dat _) rfl) ?_
    refine awp_seq ?_
    refine awp_seq ?_
    refine awp_plain hN rfl ?_
    refine seq_run0 (stp_move (.dat _) rfl) ?_
    obtain ⟨r27, h28, H⟩ := bnd H
    refine seq_run0 (stp_call (k_token_CheckSigners r2.1 r27 h28) ⟨.inl rfl, trivial⟩) ?_
    refine seq_run0 (stp_move (.dat _) rfl) ?_
    refine seq_run0 (stp_neq rfl rfl) ?_
    refine awp_cond _ rfl (fun h29 => ?_) (fun h29 => ?_)
    · replace H := ift h29 H
      refine awp_seq ?_
      refine awp_plain hN rfl ?_
      refine seq_run0 (stp_assign (.dat _) rfl) ?_
      refine awp_ret ?_
      cases H
      exact ⟨trivial, .inl rfl, trivial⟩
    · replace H := iff_ h29 H
      refine awp_skip ?_
      refine awp_seq ?_
      refine awp_plain hN rfl ?_
      refine seq_run0 (stp_move (.dat _) rfl) ?_
      refine seq_run0 (stp_move (.dat _) rfl) ?_
      obtain ⟨r30, h31, H⟩ := bnd H
      refine seq_run0 (stp_call (k_gatelaw2_momentFault r4.1 r30 h31) ⟨.inl rfl, trivial⟩) ?_
      refine seq_run0 (stp_dat (u' := vlst (List.map C_api_Errno [r25, r30])) (stp_lit [[_], [_]] tyL72 ⟨rfl, .inl ⟨_, rfl, rfl, rfl⟩, rfl, rfl, .inl ⟨_, rfl, rfl, rfl⟩, rfl, trivial⟩ rfl rfl) rfl) ?_
      obtain ⟨r32, h33, H⟩ := bnd H
      refine seq_run0 (stp_call (k_gatelaw2_errs [r25, r30] r32 h33) ⟨.inl rfl, trivial⟩) ?_
      refine seq_run0 (stp_assign (.dat _) rfl) ?_
      refine awp_seq ?_
      refine awp_plain hN rfl ?_
      refine seq_run0 (stp_assign (.dat _) rfl) ?_
      refine awp_joinE (ι := Int × Bs) (fun i => [(4, .dat (vlst (List.map C_api_Signer r2.1))), (6, .dat (vint r6.1)), (7, .ptr 2 0), (8, .dat (vstr r21.1)), (9, .dat (vint r21.2)), (10, .dat (vlst (List.map C_api_Window r23.1))), (11, .dat (vint r23.2)), (12, .dat (vint r25)), (13, .dat (vint i.1)), (14, .dat (vstr i.2))]) (fun i => [(2, .box none 42 [.dat (vint c19), .dat (vint c20)])]) (fun i => gatelaw2_SignersSign_J2 r2 r6 c19 c20 r21 r23 r25 i.1 i.2 = some r) (fun i => rfl) ?_ ?_
      · skip
        refine awp_seq ?_
        refine awp_plain hN rfl ?_
        refine seq_run0 (stp_move (.dat _) rfl) ?_
        refine seq_run0 (stp_eql rfl rfl) ?_
        refine awp_cond _ rfl (fun h34 => ?_) (fun h34 => ?_)
        · replace H := ift h34 H
          refine awp_seq ?_
          refine awp_plain hN rfl ?_
          refine seq_run0 (stp_move (.dat _) rfl) ?_
          refine seq_run0 (stp_move (.dat _) rfl) ?_
          obtain ⟨r35, h36, H⟩ := bnd H
          refine seq_run0 (stp_call (k_gateref2_SignerOf r2.1 r4.1 r35 h36) ⟨.inl rfl, .inl rfl, trivial⟩) ?_
          refine seq_run0 (stp_move (.dat _) rfl) ?_
          refine seq_run0 (stp_ext rfl rfl) ?_
          refine seq_run0 (stp_ext rfl rfl) ?_
          refine seq_run2 (stp_alloc 3 tyZ38 rfl) rfl ?_
          refine seq_run2 (stp_storeW tyS38 rfl rfl rfl rfl) rfl ?_
          refine seq_run0 (stp_assign (.dat _) rfl) ?_
          refine awp_draw mixed hN rfl rfl ?_
          refine seq_run0 (stp_fldP tyF38_0 rfl) ?_
          refine seq_run1 (stp_load1 tyS9 rfl rfl) rfl ?_
          refine seq_run0 (stp_move (.dat _) rfl) ?_
          refine seq_run0 (stp_not rfl) ?_
          obtain ⟨r37, h38, H⟩ := bnd H
          refine seq_run0 (stp_call (k_gatelaw2_when (!r35.2) 8 r37 h38) ⟨.inl rfl, .inl rfl, trivial⟩) ?_
          refine seq_run0 (stp_assign (.dat _) rfl) ?_
          refine seq_run0 (stp_assign (.dat _) rfl) ?_
          refine ⟨rfl, ?_⟩
          exact ⟨(r37, r35.1.Id), H, ⟨rfl, rfl, rfl, rfl, rfl, rfl, rfl, rfl, rfl, rfl, trivial⟩, ⟨rfl, trivial⟩⟩
        · replace H := iff_ h34 H
          refine awp_skip ?_
          exact ⟨(r32, []), H, ⟨rfl, rfl, rfl, rfl, rfl, rfl, rfl, rfl, rfl, rfl, trivial⟩, ⟨rfl, trivial⟩⟩
      · rintro ⟨v39, v40⟩ H
        replace H : gatelaw2_SignersSign_J2 r2 r6 c19 c20 r21 r23 r25 v39 v40 = some r := H
        unfold gatelaw2_SignersSign_J2 at H
        refine awp_seq ?_
        refine awp_plain hN rfl ?_
        refine seq_run0 (stp_move (.dat _) rfl) ?_
        refine seq_run0 (stp_fldP tyF42_0 rfl) ?_
        refine seq_run1 (stp_load1 tyS3 rfl rfl) rfl ?_
        refine seq_run0 (stp_lss rfl rfl) ?_
        refine seq_run0 (stp_move (.dat _) rfl) ?_
        refine seq_aF rfl rfl (fun hc => stp_fldP tyF42_0 rfl) ?_
        refine seq_arF rfl rfl (fun hc => stp_load1 tyS3 (cnd (c := (!(decide (c19 < 0)))) hc) rfl) rfl anti_p ?_
        refine seq_aF rfl rfl (fun hc => stp_fldP tyF42_1 rfl) ?_
        refine seq_arF rfl rfl (fun hc => stp_load1 tyS3 (cnd (c := (!(decide (c19 < 0)))) hc) rfl) rfl anti_p ?_
        refine seq_aF rfl rfl (fun hc => stp_gtr (cnd (c := (!(decide (c19 < 0)))) hc) (cnd (c := (!(decide (c19 < 0)))) hc)) ?_
        refine seq_run0 (stp_pick_or rfl rfl (fun hb => (cnd (c := (!(decide (c19 < 0)))) (notI hb)))) ?_
        refine seq_run0 (stp_move (.dat _) rfl) ?_
        refine seq_aF rfl rfl (fun hc => stp_fldP tyF42_1 rfl) ?_
        refine seq_arF rfl rfl (fun hc => stp_load1 tyS3 (cnd (c := (!((decide (c19 < 0)) || (decide (c20 < c19))))) hc) rfl) rfl anti_p ?_
        refine seq_aF rfl rfl (fun hc => stp_gtr (cnd (c := (!((decide (c19 < 0)) || (decide (c20 < c19))))) hc) rfl) ?_
        refine seq_run0 (stp_pick_or rfl rfl (fun hb => (cnd (c := (!((decide (c19 < 0)) || (decide (c20 < c19))))) (notI hb)))) ?_
        obtain ⟨r41, h42, H⟩ := bnd H
        refine seq_run0 (stp_call (k_gatelaw2_when (((decide (c19 < 0)) || (decide (c20 < c19))) || (decide (345686400000 < c20))) 1 r41 h42) ⟨.inl rfl, .inl rfl, trivial⟩) ?_
        refine seq_run0 (stp_move (.dat _) rfl) ?_
        refine seq_run0 (stp_lss rfl rfl) ?_
        refine seq_run0 (stp_move (.dat _) rfl) ?_
        refine seq_aF rfl rfl (fun hc => stp_move (.dat _) rfl) ?_
        refine seq_aF rfl rfl (fun hc => stp_gtr (cnd (c := (!(decide (r6.1 < 0)))) hc) rfl) ?_
        refine seq_run0 (stp_pick_or rfl rfl (fun hb => (cnd (c := (!(decide (r6.1 < 0)))) (notI hb)))) ?_
        obtain ⟨r43, h44, H⟩ := bnd H
        refine seq_run0 (stp_call (k_gatelaw2_when ((decide (r6.1 < 0)) || (decide (345686400000 < r6.1))) 1 r43 h44) ⟨.inl rfl, .inl rfl, trivial⟩) ?_
        refine seq_run0 (stp_dat (u' := vlst (List.map C_api_Errno [r25, r41, r43])) (stp_lit [[_], [_], [_]] tyL72 ⟨rfl, .inl ⟨_, rfl, rfl, rfl⟩, rfl, rfl, .inl ⟨_, rfl, rfl, rfl⟩, rfl, rfl, .inl ⟨_, rfl, rfl, rfl⟩, rfl, trivial⟩ rfl rfl) rfl) ?_
        obtain ⟨r45, h46, H⟩ := bnd H
        refine seq_run0 (stp_call (k_gatelaw2_errs [r25, r41, r43] r45 h46) ⟨.inl rfl, trivial⟩) ?_
        refine seq_run0 (stp_assign (.dat _) rfl) ?_
        refine awp_seq ?_
        refine awp_plain hN rfl ?_
        refine seq_run0 (stp_assign (.dat _) rfl) ?_
        refine awp_joinW (ι := (List S_api_Window)) (fun i => [(8, .dat (vstr r21.1)), (9, .dat (vint r21.2)), (10, .dat (vlst (List.map C_api_Window r23.1))), (11, .dat (vint r23.2)), (13, .dat (vint v39)), (14, .dat (vstr v40)), (17, .dat (vint r45)), (18, .dat (vlst (List.map C_api_Window i)))]) (fun i => []) (fun i => gatelaw2_SignersSign_J3 r21 r23 v39 v40 r45 i = some r) (fun i => rfl) (fun i => rfl) ?_ ?_
        · skip
          refine awp_seq ?_
          refine awp_plain hN rfl ?_
          refine seq_run0 (stp_move (.dat _) rfl) ?_
          refine seq_run0 (stp_eql rfl rfl) ?_
          refine awp_cond _ rfl (fun h47 => ?_) (fun h47 => ?_)
          · replace H := ift h47 H
            refine awp_plain hN rfl ?_
            refine seq_run0 (stp_move (.dat _) rfl) ?_
            refine seq_run1 (stp_loadA tyS42 rfl rfl rfl) rfl ?_
            refine seq_run0 (stp_move (.dat _) rfl) ?_
            obtain ⟨r48, h49, H⟩ := bnd H
            refine seq_run0 (stp_call (k_gateref2_UncoveredOf r2.1 (S_api_Window.mk c19 c20) r6.1 r48 h49) ⟨.inl rfl, .inl rfl, .inl rfl, trivial⟩) ?_
            refine seq_run0 (stp_assign (.dat _) rfl) ?_
            exact ⟨r48, H, ⟨.inl rfl, .inl rfl, .inl rfl, .inl rfl, .inl rfl, .inl rfl, .inl rfl, .inl rfl, trivial⟩, trivial⟩
          · replace H := iff_ h47 H
            refine awp_skip ?_
            exact ⟨[], H, ⟨.inl rfl, .inl rfl, .inl rfl, .inl rfl, .inl rfl, .inl rfl, .inl rfl, .inr ⟨rfl, rfl⟩, trivial⟩, trivial⟩
        · rintro v50 H
          replace H : gatelaw2_SignersSign_J3 r21 r23 v39 v40 r45 v50 = some r := H
          unfold gatelaw2_SignersSign_J3 at H
          refine awp_joinE (ι := Bool) (fun i => [(2, .dat (vbool i))]) (fun i => []) (fun i => gatelaw2_SignersSign_J4 i = some r) (fun i => rfl) ?_ ?_
          · skip
            refine awp_plain hN rfl ?_
            refine seq_run0 (stp_move (.dat _) rfl) ?_
            refine seq_run0 (stp_move (.dat _) rfl) ?_
            refine seq_run0 (stp_eql rfl rfl) ?_
            refine seq_run0 (stp_move (.dat _) rfl) ?_
            refine seq_split (j := 3) rfl rfl (fun h51 => ?_) (fun h51 => ?_) rfl
            · have h52 := un1 h51
              replace H := ift h52 H
              refine seq_g0 rfl rfl h51 (stp_move (.dat _) rfl) ?_
              refine seq_g0 rfl rfl h51 (stp_move (.dat _) rfl) ?_
              refine seq_g0 rfl rfl h51 (stp_seql rfl rfl) ?_
              refine seq_run0 (stp_pick_t rfl (bTT h52) rfl) ?_
              refine seq_run0 (stp_move (.dat _) rfl) ?_
              refine seq_split (j := 8) rfl rfl (fun h53 => ?_) (fun h53 => ?_) rfl
              · have h54 := un1 h53
                replace H := ift h54 H
                refine seq_g0 rfl rfl h53 (stp_move (.dat _) rfl) ?_
                refine seq_g0 rfl rfl h53 (stp_move (.dat _) rfl) ?_
                refine seq_g0 rfl rfl h53 (stp_eql rfl rfl) ?_
                refine seq_run0 (stp_pick_t rfl (bTT h54) rfl) ?_
                refine seq_run0 (stp_move (.dat _) rfl) ?_
                refine seq_split (j := 13) rfl rfl (fun h55 => ?_) (fun h55 => ?_) rfl
                · have h56 := un1 h55
                  replace H := ift h56 H
                  refine seq_g0 rfl rfl h55 (stp_move (.dat _) rfl) ?_
                  refine seq_g0 rfl rfl h55 (stp_move (.dat _) rfl) ?_
                  obtain ⟨r57, h58, H⟩ := bnd H
                  refine seq_g0 rfl rfl h55 (stp_call (k_slices_Equal_L_api_Window_api_Window_ r23.1 v50 r57 h58) ⟨.inl rfl, .inl rfl, trivial⟩) ?_
                  refine seq_run0 (stp_pick_t rfl (bTT h56) rfl) ?_
                  refine seq_run0 (stp_move (.dat _) rfl) ?_
                  refine seq_split (j := 18) rfl rfl (fun h59 => ?_) (fun h59 => ?_) rfl
                  · have h60 := un1 h59
                    replace H := ift h60 H
                    obtain ⟨r61, h62, H⟩ := bnd H
                    refine seq_g0 rfl rfl h59 (stp_call (k_gatelaw2_signed  r61 h62) trivial) ?_
                    refine seq_run0 (stp_pick_t rfl (bTT h60) rfl) ?_
                    refine seq_run0 (stp_assign (.dat _) rfl) ?_
                    exact ⟨r61, H, ⟨rfl, trivial⟩, trivial⟩
                  · have h63 := un2 h59
                    replace H := iff_ h63 H
                    refine seq_skip rfl rfl h59 ?_
                    refine seq_run0 (stp_pick_f rfl (bFF h63) rfl) ?_
                    refine seq_run0 (stp_assign (.dat _) rfl) ?_
                    exact ⟨false, H, ⟨rfl, trivial⟩, trivial⟩
                · have h64 := un2 h55
                  replace H := iff_ h64 H
                  refine seq_skip rfl rfl h55 ?_
                  refine seq_skip rfl rfl h55 ?_
                  refine seq_skip rfl rfl h55 ?_
                  refine seq_run0 (stp_pick_f rfl (bFF h64) rfl) ?_
                  refine seq_run0 (stp_move (.dat _) rfl) ?_
                  refine seq_skip rfl rfl rfl ?_
                  refine seq_run0 (stp_pick_f rfl rfl rfl) ?_
                  refine seq_run0 (stp_assign (.dat _) rfl) ?_
                  exact ⟨false, H, ⟨rfl, trivial⟩, trivial⟩
              · have h65 := un2 h53
                replace H := iff_ h65 H
                refine seq_skip rfl rfl h53 ?_
                refine seq_skip rfl rfl h53 ?_
                refine seq_skip rfl rfl h53 ?_
                refine seq_run0 (stp_pick_f rfl (bFF h65) rfl) ?_
                refine seq_run0 (stp_move (.dat _) rfl) ?_
                refine seq_skip rfl rfl rfl ?_
                refine seq_skip rfl rfl rfl ?_
                refine seq_skip rfl rfl rfl ?_
                refine seq_run0 (stp_pick_f rfl rfl rfl) ?_
                refine seq_run0 (stp_move (.dat _) rfl) ?_
                refine seq_skip rfl rfl rfl ?_
                refine seq_run0 (stp_pick_f rfl rfl rfl) ?_
                refine seq_run0 (stp_assign (.dat _) rfl) ?_
                exact ⟨false, H, ⟨rfl, trivial⟩, trivial⟩
            · have h66 := un2 h51
              replace H := iff_ h66 H
              refine seq_skip rfl rfl h51 ?_
              refine seq_skip rfl rfl h51 ?_
              refine seq_skip rfl rfl h51 ?_
              refine seq_run0 (stp_pick_f rfl (bFF h66) rfl) ?_
              refine seq_run0 (stp_move (.dat _) rfl) ?_
              refine seq_skip rfl rfl rfl ?_
              refine seq_skip rfl rfl rfl ?_
              refine seq_skip rfl rfl rfl ?_
              refine seq_run0 (stp_pick_f rfl rfl rfl) ?_
              refine seq_run0 (stp_move (.dat _) rfl) ?_
              refine seq_skip rfl rfl rfl ?_
              refine seq_skip rfl rfl rfl ?_
              refine seq_skip rfl rfl rfl ?_
              refine seq_run0 (stp_pick_f rfl rfl rfl) ?_
              refine seq_run0 (stp_move (.dat _) rfl) ?_
              refine seq_skip rfl rfl rfl ?_
              refine seq_run0 (stp_pick_f rfl rfl rfl) ?_
              refine seq_run0 (stp_assign (.dat _) rfl) ?_
              exact ⟨false, H, ⟨rfl, trivial⟩, trivial⟩
          · rintro v67 H
            replace H : gatelaw2_SignersSign_J4 v67 = some r := H
            unfold gatelaw2_SignersSign_J4 at H
            refine awp_ret ?_
            cases H
            exact ⟨trivial, .inl rfl, trivial⟩
end Go.Proofs.Ytpeeeanmfmhlgaa
