/- Walks along the models. Printed by a program. -/
import Derived.Test.YtmcegaabopcmfaaTw3
namespace Go.Proofs.Ytmcegaabopcmfaa
open Go.RowKit
set_option linter.unusedVariables false
set_option maxRecDepth 20000
theorem k_gatelaw2_TriesAgain (v1 : (List Int)) (r : (Bool)) (H : m_gatelaw2_TriesAgain v1 = some r) : Fn Try.prog 7 [vlst (List.map C_int v1)] (resOf [vbool r]) := by
  refine ⟨by kernel_rfl, pure_of (us := [vbool r]) Try.func7 rfl rfl rfl rfl fun X hN => ?_⟩
  unfold m_gatelaw2_TriesAgain at H
  refine awp_seq ?_
  refine awp_plain hN rfl ?_
  refine seq_run0 (stp_assign (.dat _) rfl) ?_
  refine awp_seq ?_
  refine awp_plain hN rfl ?_
  refine seq_run0 (stp_move (.dat _) rfl) ?_
  refine seq_run0 (stp_dat (u' := vagg (C_gatemake_Stream (S_gatemake_Stream.mk v1 0))) (stp_build [(0, [vlst (List.map C_int v1)])] tyZ25 tyP25 rfl ⟨rfl, .inl ⟨_, rfl, rfl, rfl⟩, rfl, trivial⟩) rfl) ?_
  refine seq_run2 (stp_boxA 1 rfl) rfl ?_
  refine seq_run0 (stp_assign (.ptr _ _) rfl) ?_
  refine awp_seq ?_
  refine awp_plain hN rfl ?_
  refine seq_run0 (stp_assign (.dat _) rfl) ?_
  refine awp_seq ?_
  refine awp_seq ?_
  refine awp_plain hN rfl ?_
  refine seq_run0 (stp_move (.ptr _ _) rfl) ?_
  obtain ⟨r2, h3, H⟩ := bnd H
  refine seq_run2 (stp_imp (k_gatemake_Stream_Range (S_gatemake_Stream.mk v1 0) 0 8 r2 h3) rfl ⟨.inl rfl, .inl rfl, trivial⟩ rfl) rfl ?_
  refine seq_run0 (stp_move (.dat _) rfl) ?_
  refine awp_block ?_
  refine awp_nilrow 4 2 3 1 rfl rfl rfl ?_
  obtain ⟨h9, H⟩ := gif H
  refine awp_rng (fun (k7 : Nat) (s : (List Int) × Int × (List Int)) => [(3, .ptr 1 0), (4, .row 2 s.2.2.length), (30, .dat (vint r2.1)), (31, .dat (vint (k7 : Int)))]) (fun (k7 : Nat) (s : (List Int) × Int × (List Int)) => [(1, .box none 25 [.dat (vlst (List.map C_int s.1)), .dat (vint s.2.1)]), (2, .row 3 1 (List.map C_int s.2.2))]) (r2.2.L, r2.2.at_, []) H ⟨rfl, congrArg (Slot.row 2) (by simp), rfl, rfl, trivial⟩ ⟨rfl, rfl, trivial⟩ (fun _ _ => rfl) ?_ ?_
  · rintro ⟨c4, c5, l6⟩ H
    replace H : gatelaw2_TriesAgain_E1 c4 c5 l6 = some r := H
    unfold gatelaw2_TriesAgain_E1 at H
    refine awp_seq ?_
    refine awp_plain hN rfl ?_
    refine seq_run0 (stp_lss rfl rfl) ?_
    refine awp_seq ?_
    refine awp_cond _ rfl (fun h => (lt_tI h).elim) (fun h => ?_)
    refine awp_exit ?_
    refine awp_seq ?_
    refine awp_plain hN rfl ?_
    refine seq_run0 (stp_move (.ptr _ _) rfl) ?_
    refine seq_run0 (stp_dat (u' := vlst (List.map C_int [1, 250, 500, 501, 900, 999, 1000, 0, 1001])) (stp_lit [[_], [_], [_], [_], [_], [_], [_], [_], [_]] tyL22 ⟨rfl, .inl ⟨_, rfl, rfl, rfl⟩, rfl, rfl, .inl ⟨_, rfl, rfl, rfl⟩, rfl, rfl, .inl ⟨_, rfl, rfl, rfl⟩, rfl, rfl, .inl ⟨_, rfl, rfl, rfl⟩, rfl, rfl, .inl ⟨_, rfl, rfl, rfl⟩, rfl, rfl, .inl ⟨_, rfl, rfl, rfl⟩, rfl, rfl, .inl ⟨_, rfl, rfl, rfl⟩, rfl, rfl, .inl ⟨_, rfl, rfl, rfl⟩, rfl, rfl, .inl ⟨_, rfl, rfl, rfl⟩, rfl, trivial⟩ rfl rfl) rfl) ?_
    obtain ⟨r10, h11, H⟩ := bnd H
    refine seq_run2 (stp_imp (k_gatemake_Stream_Pick (S_gatemake_Stream.mk c4 c5) [1, 250, 500, 501, 900, 999, 1000, 0, 1001] r10 h11) rfl ⟨.inl rfl, trivial⟩ rfl) rfl ?_
    refine seq_run0 (stp_move (.ptr _ _) rfl) ?_
    refine seq_run0 (stp_dat (u' := vlst (List.map C_int [0, 1, 10, 100])) (stp_lit [[_], [_], [_], [_]] tyL22 ⟨rfl, .inl ⟨_, rfl, rfl, rfl⟩, rfl, rfl, .inl ⟨_, rfl, rfl, rfl⟩, rfl, rfl, .inl ⟨_, rfl, rfl, rfl⟩, rfl, rfl, .inl ⟨_, rfl, rfl, rfl⟩, rfl, trivial⟩ rfl rfl) rfl) ?_
    obtain ⟨r12, h13, H⟩ := bnd H
    refine seq_run2 (stp_imp (k_gatemake_Stream_Pick r10.2 [0, 1, 10, 100] r12 h13) rfl ⟨.inl rfl, trivial⟩ rfl) rfl ?_
    refine seq_run0 (stp_move (.ptr _ _) rfl) ?_
    refine seq_run0 (stp_dat (u' := vlst (List.map C_int [100, 150, 1000, 3600000])) (stp_lit [[_], [_], [_], [_]] tyL22 ⟨rfl, .inl ⟨_, rfl, rfl, rfl⟩, rfl, rfl, .inl ⟨_, rfl, rfl, rfl⟩, rfl, rfl, .inl ⟨_, rfl, rfl, rfl⟩, rfl, rfl, .inl ⟨_, rfl, rfl, rfl⟩, rfl, trivial⟩ rfl rfl) rfl) ?_
    obtain ⟨r14, h15, H⟩ := bnd H
    refine seq_run2 (stp_imp (k_gatemake_Stream_Pick r12.2 [100, 150, 1000, 3600000] r14 h15) rfl ⟨.inl rfl, trivial⟩ rfl) rfl ?_
    refine seq_run0 (stp_move (.ptr _ _) rfl) ?_
    refine seq_run0 (stp_dat (u' := vlst (List.map C_int [2, 3, 4, 5, 100, 1, 101])) (stp_lit [[_], [_], [_], [_], [_], [_], [_]] tyL22 ⟨rfl, .inl ⟨_, rfl, rfl, rfl⟩, rfl, rfl, .inl ⟨_, rfl, rfl, rfl⟩, rfl, rfl, .inl ⟨_, rfl, rfl, rfl⟩, rfl, rfl, .inl ⟨_, rfl, rfl, rfl⟩, rfl, rfl, .inl ⟨_, rfl, rfl, rfl⟩, rfl, rfl, .inl ⟨_, rfl, rfl, rfl⟩, rfl, rfl, .inl ⟨_, rfl, rfl, rfl⟩, rfl, trivial⟩ rfl rfl) rfl) ?_
    obtain ⟨r16, h17, H⟩ := bnd H
    refine seq_run2 (stp_imp (k_gatemake_Stream_Pick r14.2 [2, 3, 4, 5, 100, 1, 101] r16 h17) rfl ⟨.inl rfl, trivial⟩ rfl) rfl ?_
    refine seq_run0 (stp_assign (.dat _) rfl) ?_
    refine seq_run0 (stp_assign (.dat _) rfl) ?_
    refine seq_run0 (stp_assign (.dat _) rfl) ?_
    refine seq_run0 (stp_assign (.dat _) rfl) ?_
    refine awp_joinE (ι := Int × Int × (List Int) × Int) (fun i => [(3, .ptr 1 0), (4, .row 2 l6.length), (5, .dat (vint r10.1)), (6, .dat (vint i.1)), (7, .dat (vint i.2.1)), (8, .dat (vint r16.1))]) (fun i => [(1, .box none 25 [.dat (vlst (List.map C_int i.2.2.1)), .dat (vint i.2.2.2)]), (2, .row 3 1 (List.map C_int l6))]) (fun i => gatelaw2_TriesAgain_J2 l6 r10 r16 i.1 i.2.1 i.2.2.1 i.2.2.2 = some r) (fun i => rfl) ?_ ?_
    · skip
      refine awp_seq ?_
      refine awp_plain hN rfl ?_
      refine seq_run0 (stp_move (.ptr _ _) rfl) ?_
      obtain ⟨r18, h19, H⟩ := bnd H
      refine seq_run2 (stp_imp (k_gatemake_Stream_Flip r16.2 12 r18 h19) rfl ⟨.inl rfl, trivial⟩ rfl) rfl ?_
      refine awp_cond _ rfl (fun h20 => ?_) (fun h20 => ?_)
      · replace H := ift h20 H
        refine awp_plain hN rfl ?_
        refine seq_run0 (stp_move (.ptr _ _) rfl) ?_
        obtain ⟨r21, h22, H⟩ := bnd H
        refine seq_run2 (stp_imp (k_gatemake_Stream_Odd r18.2 0 100 r21 h22) rfl ⟨.inl rfl, .inl rfl, trivial⟩ rfl) rfl ?_
        refine seq_run0 (stp_move (.ptr _ _) rfl) ?_
        obtain ⟨r23, h24, H⟩ := bnd H
        refine seq_run2 (stp_imp (k_gatemake_Stream_Odd r21.2 0 3600000 r23 h24) rfl ⟨.inl rfl, .inl rfl, trivial⟩ rfl) rfl ?_
        refine seq_run0 (stp_assign (.dat _) rfl) ?_
        refine seq_run0 (stp_assign (.dat _) rfl) ?_
        exact ⟨(r21.1, r23.1, r23.2.L, r23.2.at_), H, ⟨rfl, rfl, rfl, rfl, rfl, rfl, trivial⟩, ⟨rfl, rfl, trivial⟩⟩
      · replace H := iff_ h20 H
        refine awp_skip ?_
        exact ⟨(r12.1, r14.1, r18.2.L, r18.2.at_), H, ⟨rfl, rfl, rfl, rfl, rfl, rfl, trivial⟩, ⟨rfl, rfl, trivial⟩⟩
    · rintro ⟨v25, v26, c27, c28⟩ H
      replace H : gatelaw2_TriesAgain_J2 l6 r10 r16 v25 v26 c27 c28 = some r := H
      unfold gatelaw2_TriesAgain_J2 at H
      refine awp_seq ?_
      refine awp_plain hN rfl ?_
      refine seq_run0 (stp_move (.ptr _ _) rfl) ?_
      obtain ⟨r29, h30, H⟩ := bnd H
      refine seq_run2 (stp_imp (k_gatemake_Stream_Budget (S_gatemake_Stream.mk c27 c28) r29 h30) rfl trivial rfl) rfl ?_
      refine seq_run0 (stp_move (.ptr _ _) rfl) ?_
      obtain ⟨r31, h32, H⟩ := bnd H
      refine seq_run2 (stp_imp (k_gatemake_Stream_Times r29.2 8 r31 h32) rfl ⟨.inl rfl, trivial⟩ rfl) rfl ?_
      refine seq_run0 (stp_move (.ptr _ _) rfl) ?_
      obtain ⟨r33, h34, H⟩ := bnd H
      refine seq_run2 (stp_imp (k_gatemake_Stream_Times r31.2 6 r33 h34) rfl ⟨.inl rfl, trivial⟩ rfl) rfl ?_
      refine seq_run0 (stp_move (.ptr _ _) rfl) ?_
      refine seq_run0 (stp_dat (u' := vlst (List.map C_int [0, 5, 50, 100, 150, (-1)])) (stp_lit [[_], [_], [_], [_], [_], [_]] tyL22 ⟨rfl, .inl ⟨_, rfl, rfl, rfl⟩, rfl, rfl, .inl ⟨_, rfl, rfl, rfl⟩, rfl, rfl, .inl ⟨_, rfl, rfl, rfl⟩, rfl, rfl, .inl ⟨_, rfl, rfl, rfl⟩, rfl, rfl, .inl ⟨_, rfl, rfl, rfl⟩, rfl, rfl, .inl ⟨_, rfl, rfl, rfl⟩, rfl, trivial⟩ rfl rfl) rfl) ?_
      obtain ⟨r35, h36, H⟩ := bnd H
      refine seq_run2 (stp_imp (k_gatemake_Stream_Pick r33.2 [0, 5, 50, 100, 150, (-1)] r35 h36) rfl ⟨.inl rfl, trivial⟩ rfl) rfl ?_
      refine seq_run2 (stp_alloc 3 tyZ50 rfl) rfl ?_
      refine seq_run2 (stp_storeW tyS50 rfl rfl rfl rfl) rfl ?_
      refine seq_run0 (stp_assign (.dat _) rfl) ?_
      refine seq_run0 (stp_assign (.dat _) rfl) ?_
      refine seq_run0 (stp_assign (.dat _) rfl) ?_
      refine awp_seq ?_
      refine t_freeze 4 2 rfl rfl rfl ?_
      refine awp_plain hN rfl ?_
      refine seq_run0 (stp_move (.dat _) rfl) ?_
      refine seq_run0 (stp_move (.dat _) rfl) ?_
      obtain ⟨r37, h38, H⟩ := bnd H
      refine seq_run0 (stp_call (k_upstream_Percentile l6 r10.1 r37 h38) ⟨.inl rfl, .inl rfl, trivial⟩) ?_
      refine seq_run0 (stp_move (.dat _) rfl) ?_
      refine seq_run0 (stp_ext rfl rfl) ?_
      refine seq_run0 (stp_ext rfl rfl) ?_
      refine seq_run0 (stp_assign (.dat _) rfl) ?_
      refine seq_run0 (stp_assign (.dat _) rfl) ?_
      refine awp_seq ?_
      refine awp_plain hN rfl ?_
      refine seq_run0 (stp_move (.dat _) rfl) ?_
      refine seq_run0 (stp_move (.dat _) rfl) ?_
      refine seq_run0 (stp_move (.dat _) rfl) ?_
      obtain ⟨r39, h40, H⟩ := bnd H
      refine seq_run0 (stp_call (k_upstream_Backoff v25 v26 r16.1 r39 h40) ⟨.inl rfl, .inl rfl, .inl rfl, trivial⟩) ?_
      refine seq_run0 (stp_move (.dat _) rfl) ?_
      refine seq_run0 (stp_ext rfl rfl) ?_
      refine seq_run0 (stp_ext rfl rfl) ?_
      refine seq_run0 (stp_assign (.dat _) rfl) ?_
      refine seq_run0 (stp_assign (.dat _) rfl) ?_
      refine awp_seq ?_
      refine awp_plain hN rfl ?_
      refine seq_run1 (stp_loadA tyS50 rfl rfl rfl) rfl ?_
      refine seq_run0 (stp_move (.dat _) rfl) ?_
      refine seq_run0 (stp_move (.dat _) rfl) ?_
      refine seq_run0 (stp_move (.dat _) rfl) ?_
      obtain ⟨r41, h42, H⟩ := bnd H
      refine seq_run0 (stp_call (k_upstream_May r29.1 r31.1 r33.1 r35.1 r41 h42) ⟨.inl rfl, .inl rfl, .inl rfl, .inl rfl, trivial⟩) ?_
      refine seq_run0 (stp_move (.dat _) rfl) ?_
      refine seq_run0 (stp_ext rfl rfl) ?_
      refine seq_run0 (stp_ext rfl rfl) ?_
      refine seq_run0 (stp_assign (.dat _) rfl) ?_
      refine seq_run0 (stp_assign (.dat _) rfl) ?_
      refine awp_seq ?_
      refine awp_plain hN rfl ?_
      refine seq_run0 (stp_move (.dat _) rfl) ?_
      refine seq_run0 (t_len tyU22 rfl) ?_
      refine seq_run0 (stp_eql rfl rfl) ?_
      obtain ⟨r43, h44, H⟩ := bnd H
      refine seq_run0 (stp_call (k_gatelaw2_when (decide ((l6.length : Int) = 0)) 8 r43 h44) ⟨.inl rfl, .inl rfl, trivial⟩) ?_
      refine seq_run0 (stp_move (.dat _) rfl) ?_
      refine seq_run0 (stp_lss rfl rfl) ?_
      refine seq_run0 (stp_move (.dat _) rfl) ?_
      refine seq_aF rfl rfl (fun hc => stp_move (.dat _) rfl) ?_
      refine seq_aF rfl rfl (fun hc => stp_gtr (cnd (c := (!(decide (r10.1 < 1)))) hc) rfl) ?_
      refine seq_run0 (stp_pick_or rfl rfl (fun hb => (cnd (c := (!(decide (r10.1 < 1)))) (notI hb)))) ?_
      obtain ⟨r45, h46, H⟩ := bnd H
      refine seq_run0 (stp_call (k_gatelaw2_when ((decide (r10.1 < 1)) || (decide (1000 < r10.1))) 1 r45 h46) ⟨.inl rfl, .inl rfl, trivial⟩) ?_
      refine seq_run0 (stp_dat (u' := vlst (List.map C_api_Errno [r43, r45])) (stp_lit [[_], [_]] tyL143 ⟨rfl, .inl ⟨_, rfl, rfl, rfl⟩, rfl, rfl, .inl ⟨_, rfl, rfl, rfl⟩, rfl, trivial⟩ rfl rfl) rfl) ?_
      obtain ⟨r47, h48, H⟩ := bnd H
      refine seq_run0 (stp_call (k_gatelaw2_errs [r43, r45] r47 h48) ⟨.inl rfl, trivial⟩) ?_
      refine seq_run0 (stp_move (.dat _) rfl) ?_
      refine seq_run0 (stp_move (.dat _) rfl) ?_
      refine seq_run0 (stp_move (.dat _) rfl) ?_
      obtain ⟨r49, h50, H⟩ := bnd H
      refine seq_run0 (stp_call (k_gateref2_BackoffFault v25 v26 r16.1 r49 h50) ⟨.inl rfl, .inl rfl, .inl rfl, trivial⟩) ?_
      refine seq_run0 (stp_assign (.dat _) rfl) ?_
      refine seq_run0 (stp_assign (.dat _) rfl) ?_
      refine awp_seq ?_
      refine awp_plain hN rfl ?_
      refine seq_run1 (stp_loadA tyS50 rfl rfl rfl) rfl ?_
      obtain ⟨r51, h52, H⟩ := bnd H
      refine seq_run0 (stp_call (k_gateref2_BudgetFault r29.1 r51 h52) ⟨.inl rfl, trivial⟩) ?_
      refine seq_run0 (stp_assign (.dat _) rfl) ?_
      refine awp_seq ?_
      refine awp_seq ?_
      refine awp_plain hN rfl ?_
      refine seq_run1 (stp_loadA tyS50 rfl rfl rfl) rfl ?_
      obtain ⟨r53, h54, H⟩ := bnd H
      refine seq_run0 (stp_call (k_upstream_CheckBudget r29.1 r53 h54) ⟨.inl rfl, trivial⟩) ?_
      refine seq_run0 (stp_move (.dat _) rfl) ?_
      refine seq_run0 (stp_neq rfl rfl) ?_
      refine awp_cond _ rfl (fun h55 => ?_) (fun h55 => ?_)
      · replace H := ift h55 H
        refine awp_seq ?_
        refine awp_plain hN rfl ?_
        refine seq_run0 (stp_assign (.dat _) rfl) ?_
        refine awp_ret ?_
        cases H
        exact ⟨trivial, .inl rfl, trivial⟩
      · replace H := iff_ h55 H
        refine awp_skip ?_
        refine awp_seq ?_
        refine awp_seq ?_
        refine awp_plain hN rfl ?_
        refine seq_run0 (stp_move (.dat _) rfl) ?_
        refine seq_run0 (stp_move (.dat _) rfl) ?_
        refine seq_run0 (stp_move (.dat _) rfl) ?_
        refine seq_run0 (stp_dat (u' := vlst (List.map C_int [r35.1])) (stp_lit [[_]] tyL22 ⟨rfl, .inl ⟨_, rfl, rfl, rfl⟩, rfl, trivial⟩ rfl rfl) rfl) ?_
        refine seq_run0 (stp_dat (u' := vlst (List.map C_L_int [r31.1, r33.1, [r35.1]])) (stp_lit [[_], [_], [_]] tyL160 ⟨rfl, .inl ⟨_, rfl, rfl, rfl⟩, rfl, rfl, .inl ⟨_, rfl, rfl, rfl⟩, rfl, rfl, .inl ⟨_, rfl, rfl, rfl⟩, rfl, trivial⟩ rfl rfl) rfl) ?_
        obtain ⟨r56, h57, H⟩ := bnd H
        refine seq_run0 (stp_call (k_slices_Concat_L_int_int_ ([r31.1, r33.1, [r35.1]]) r56 h57) ⟨.inl rfl, trivial⟩) ?_
        refine seq_run0 (t_len tyU22 rfl) ?_
        refine seq_run0 (stp_move (.dat _) rfl) ?_
        refine awp_block ?_
        obtain ⟨h61, H⟩ := gif H
        refine awp_forL (fun (k59 : Nat) (s : Int) => [(4, .dat (vlst (List.map C_int l6))), (5, .dat (vint r10.1)), (6, .dat (vint v25)), (7, .dat (vint v26)), (8, .dat (vint r16.1)), (9, .ptr 3 0), (10, .dat (vlst (List.map C_int r31.1))), (11, .dat (vlst (List.map C_int r33.1))), (12, .dat (vint r35.1)), (13, .dat (vint r37.1)), (14, .dat (vint r37.2)), (15, .dat (vint r39.1)), (16, .dat (vint r39.2)), (17, .dat (vbool r41.1)), (18, .dat (vint r41.2)), (19, .dat (vint r47)), (20, .dat (vint r49)), (21, .dat (vint s)), (116, .dat (vlst (List.map C_int r56))), (117, .dat (vint (r56.length : Int))), (118, .dat (vint (k59 : Int)))]) (fun (k59 : Nat) (s : Int) => [(3, .box none 50 [.dat (vint r29.1.Window), .dat (vint r29.1.Least), .dat (vint r29.1.Part)])]) r51 H ⟨rfl, rfl, rfl, rfl, rfl, rfl, rfl, rfl, rfl, rfl, rfl, rfl, rfl, rfl, rfl, rfl, rfl, rfl, rfl, rfl, rfl, trivial⟩ ⟨rfl, trivial⟩ (fun _ _ => rfl) ?_ ?_
        · rintro v58 H
          replace H : gatelaw2_TriesAgain_E3 l6 r10 r16 v25 v26 r29 r31 r33 r35 r37 r39 r41 r47 r49 v58 = some r := H
          unfold gatelaw2_TriesAgain_E3 at H
          refine awp_seq ?_
          refine awp_plain hN rfl ?_
          refine seq_run0 (stp_lss rfl rfl) ?_
          refine awp_seq ?_
          refine awp_cond _ rfl (fun h => (lt_t h).elim) (fun h => ?_)
          refine awp_exit ?_
          refine awp_seq ?_
          refine awp_plain hN rfl ?_
          refine seq_run0 (stp_assign (.dat _) rfl) ?_
          refine seq_run0 (stp_assign (.dat _) rfl) ?_
          refine awp_joinE (ι := Int) (fun i => [(6, .dat (vint v25)), (7, .dat (vint v26)), (8, .dat (vint r16.1)), (9, .ptr 3 0), (10, .dat (vlst (List.map C_int r31.1))), (11, .dat (vlst (List.map C_int r33.1))), (12, .dat (vint r35.1)), (13, .dat (vint r37.1)), (14, .dat (vint r37.2)), (15, .dat (vint r39.1)), (16, .dat (vint r39.2)), (17, .dat (vbool r41.1)), (18, .dat (vint r41.2)), (19, .dat (vint r47)), (20, .dat (vint r49)), (21, .dat (vint v58)), (24, .dat (vint i)), (25, .dat (vint 0))]) (fun i => [(3, .box none 50 [.dat (vint r29.1.Window), .dat (vint r29.1.Least), .dat (vint r29.1.Part)])]) (fun i => gatelaw2_TriesAgain_J4 r16 v25 v26 r29 r31 r33 r35 r37 r39 r41 r47 r49 v58 i = some r) (fun i => rfl) ?_ ?_
          · skip
            refine awp_seq ?_
            refine awp_plain hN rfl ?_
            refine seq_run0 (stp_move (.dat _) rfl) ?_
            refine seq_run0 (stp_eql rfl rfl) ?_
            refine awp_cond _ rfl (fun h63 => ?_) (fun h63 => ?_)
            · replace H := ift h63 H
              refine awp_plain hN rfl ?_
              refine seq_run0 (stp_move (.dat _) rfl) ?_
              refine seq_run0 (stp_move (.dat _) rfl) ?_
              obtain ⟨r64, h65, H⟩ := bnd H
              refine seq_run0 (stp_call (k_gateref2_PercentileOf l6 r10.1 r64 h65) ⟨.inl rfl, .inl rfl, trivial⟩) ?_
              refine seq_run0 (stp_assign (.dat _) rfl) ?_
              exact ⟨r64, H, ⟨rfl, rfl, rfl, rfl, rfl, rfl, rfl, rfl, rfl, rfl, rfl, rfl, rfl, rfl, rfl, rfl, rfl, rfl, trivial⟩, ⟨rfl, trivial⟩⟩
            · replace H := iff_ h63 H
              refine awp_skip ?_
              exact ⟨0, H, ⟨rfl, rfl, rfl, rfl, rfl, rfl, rfl, rfl, rfl, rfl, rfl, rfl, rfl, rfl, rfl, rfl, rfl, rfl, trivial⟩, ⟨rfl, trivial⟩⟩
          · rintro v66 H
            replace H : gatelaw2_TriesAgain_J4 r16 v25 v26 r29 r31 r33 r35 r37 r39 r41 r47 r49 v58 v66 = some r := H
            unfold gatelaw2_TriesAgain_J4 at H
            refine awp_joinE (ι := Int) (fun i => [(9, .ptr 3 0), (10, .dat (vlst (List.map C_int r31.1))), (11, .dat (vlst (List.map C_int r33.1))), (12, .dat (vint r35.1)), (13, .dat (vint r37.1)), (14, .dat (vint r37.2)), (15, .dat (vint r39.1)), (16, .dat (vint r39.2)), (17, .dat (vbool r41.1)), (18, .dat (vint r41.2)), (19, .dat (vint r47)), (20, .dat (vint r49)), (21, .dat (vint v58)), (24, .dat (vint v66)), (25, .dat (vint i))]) (fun i => [(3, .box none 50 [.dat (vint r29.1.Window), .dat (vint r29.1.Least), .dat (vint r29.1.Part)])]) (fun i => gatelaw2_TriesAgain_J5 r29 r31 r33 r35 r37 r39 r41 r47 r49 v58 v66 i = some r) (fun i => rfl) ?_ ?_
            · skip
              refine awp_seq ?_
              refine awp_plain hN rfl ?_
              refine seq_run0 (stp_move (.dat _) rfl) ?_
              refine seq_run0 (stp_eql rfl rfl) ?_
              refine awp_cond _ rfl (fun h67 => ?_) (fun h67 => ?_)
              · replace H := ift h67 H
                refine awp_plain hN rfl ?_
                refine seq_run0 (stp_move (.dat _) rfl) ?_
                refine seq_run0 (stp_move (.dat _) rfl) ?_
                refine seq_run0 (stp_move (.dat _) rfl) ?_
                obtain ⟨r68, h69, H⟩ := bnd H
                refine seq_run0 (stp_call (k_gateref2_BackoffOf v25 v26 r16.1 r68 h69) ⟨.inl rfl, .inl rfl, .inl rfl, trivial⟩) ?_
                refine seq_run0 (stp_assign (.dat _) rfl) ?_
                exact ⟨r68, H, ⟨rfl, rfl, rfl, rfl, rfl, rfl, rfl, rfl, rfl, rfl, rfl, rfl, rfl, rfl, rfl, trivial⟩, ⟨rfl, trivial⟩⟩
              · replace H := iff_ h67 H
                refine awp_skip ?_
                exact ⟨0, H, ⟨rfl, rfl, rfl, rfl, rfl, rfl, rfl, rfl, rfl, rfl, rfl, rfl, rfl, rfl, rfl, trivial⟩, ⟨rfl, trivial⟩⟩
            · rintro v70 H
              replace H : gatelaw2_TriesAgain_J5 r29 r31 r33 r35 r37 r39 r41 r47 r49 v58 v66 v70 = some r := H
              unfold gatelaw2_TriesAgain_J5 at H
              refine awp_joinE (ι := Bool) (fun i => [(2, .dat (vbool i))]) (fun i => []) (fun i => gatelaw2_TriesAgain_J6 i = some r) (fun i => rfl) ?_ ?_
              · skip
                refine awp_plain hN rfl ?_
                refine seq_run0 (stp_move (.dat _) rfl) ?_
                refine seq_run0 (stp_move (.dat _) rfl) ?_
                refine seq_run0 (stp_eql rfl rfl) ?_
                refine seq_run0 (stp_move (.dat _) rfl) ?_
                refine seq_split (j := 3) rfl rfl (fun h71 => ?_) (fun h71 => ?_) rfl
                · have h72 := un1 h71
                  replace H := ift h72 H
                  refine seq_g0 rfl rfl h71 (stp_move (.dat _) rfl) ?_
                  refine seq_g0 rfl rfl h71 (stp_move (.dat _) rfl) ?_
                  refine seq_g0 rfl rfl h71 (stp_eql rfl rfl) ?_
                  refine seq_run0 (stp_pick_t rfl (bTT h72) rfl) ?_
                  refine seq_run0 (stp_move (.dat _) rfl) ?_
                  refine seq_split (j := 8) rfl rfl (fun h73 => ?_) (fun h73 => ?_) rfl
                  · have h74 := un1 h73
                    replace H := ift h74 H
                    refine seq_g0 rfl rfl h73 (stp_move (.dat _) rfl) ?_
                    refine seq_g0 rfl rfl h73 (stp_move (.dat _) rfl) ?_
                    refine seq_g0 rfl rfl h73 (stp_eql rfl rfl) ?_
                    refine seq_run0 (stp_pick_t rfl (bTT h74) rfl) ?_
                    refine seq_run0 (stp_move (.dat _) rfl) ?_
                    refine seq_split (j := 13) rfl rfl (fun h75 => ?_) (fun h75 => ?_) rfl
                    · have h76 := un1 h75
                      replace H := ift h76 H
                      refine seq_g0 rfl rfl h75 (stp_move (.dat _) rfl) ?_
                      refine seq_g0 rfl rfl h75 (stp_move (.dat _) rfl) ?_
                      refine seq_g0 rfl rfl h75 (stp_eql rfl rfl) ?_
                      refine seq_run0 (stp_pick_t rfl (bTT h76) rfl) ?_
                      refine seq_run0 (stp_move (.dat _) rfl) ?_
                      refine seq_split (j := 18) rfl rfl (fun h77 => ?_) (fun h77 => ?_) rfl
                      · have h78 := un1 h77
                        replace H := ift h78 H
                        refine seq_g0 rfl rfl h77 (stp_move (.dat _) rfl) ?_
                        refine seq_g0 rfl rfl h77 (stp_move (.dat _) rfl) ?_
                        refine seq_g0 rfl rfl h77 (stp_eql rfl rfl) ?_
                        refine seq_run0 (stp_pick_t rfl (bTT h78) rfl) ?_
                        refine seq_run0 (stp_move (.dat _) rfl) ?_
                        refine seq_split (j := 23) rfl rfl (fun h79 => ?_) (fun h79 => ?_) rfl
                        · have h80 := un1 h79
                          replace H := ift h80 H
                          refine seq_g0 rfl rfl h79 (stp_move (.dat _) rfl) ?_
                          refine seq_g0 rfl rfl h79 (stp_move (.dat _) rfl) ?_
                          refine seq_g0 rfl rfl h79 (stp_eql rfl rfl) ?_
                          refine seq_g0 rfl rfl h79 (stp_move (.dat _) rfl) ?_
                          refine seq_split (j := 27) rfl rfl (fun h81 => ?_) (fun h81 => ?_) rfl
                          · have h82 := un1 h81
                            replace H := ift h82 H
                            refine seq_g1 rfl rfl h81 (stp_loadA tyS50 rfl rfl rfl) rfl ?_
                            refine seq_g0 rfl rfl h81 (stp_move (.dat _) rfl) ?_
                            refine seq_g0 rfl rfl h81 (stp_move (.dat _) rfl) ?_
                            refine seq_g0 rfl rfl h81 (stp_move (.dat _) rfl) ?_
                            obtain ⟨r83, h84, H⟩ := bnd H
                            refine seq_g0 rfl rfl h81 (stp_call (k_gateref2_MayOf r29.1 r31.1 r33.1 r35.1 r83 h84) ⟨.inl rfl, .inl rfl, .inl rfl, .inl rfl, trivial⟩) ?_
                            refine seq_g0 rfl rfl h79 (stp_pick_t rfl (bTT h82) rfl) ?_
                            refine seq_g0 rfl rfl h79 (stp_beql tyU4 rfl rfl) ?_
                            refine seq_run0 (stp_pick_t rfl (bTT h80) rfl) ?_
                            refine seq_run0 (stp_move (.dat _) rfl) ?_
                            refine seq_split (j := 36) rfl rfl (fun h85 => ?_) (fun h85 => ?_) rfl
                            · have h86 := un1 h85
                              replace H := ift h86 H
                              obtain ⟨r87, h88, H⟩ := bnd H
                              refine seq_g0 rfl rfl h85 (stp_call (k_gatelaw2_balanced  r87 h88) trivial) ?_
                              refine seq_run0 (stp_pick_t rfl (bTT h86) rfl) ?_
                              refine seq_run0 (stp_assign (.dat _) rfl) ?_
                              exact ⟨r87, H, ⟨rfl, trivial⟩, trivial⟩
                            · have h89 := un2 h85
                              replace H := iff_ h89 H
                              refine seq_skip rfl rfl h85 ?_
                              refine seq_run0 (stp_pick_f rfl (bFF h89) rfl) ?_
                              refine seq_run0 (stp_assign (.dat _) rfl) ?_
                              exact ⟨false, H, ⟨rfl, trivial⟩, trivial⟩
                          · have h90 := un2 h81
                            replace H := iff_ h90 H
                            refine seq_skip rfl rfl h81 ?_
                            refine seq_skip rfl rfl h81 ?_
                            refine seq_skip rfl rfl h81 ?_
                            refine seq_skip rfl rfl h81 ?_
                            refine seq_skip rfl rfl h81 ?_
                            refine seq_g0 rfl rfl h79 (stp_pick_f rfl (bFF h90) rfl) ?_
                            refine seq_g0 rfl rfl h79 (stp_beql tyU4 rfl rfl) ?_
                            refine seq_run0 (stp_pick_t rfl (bTT h80) rfl) ?_
                            refine seq_run0 (stp_move (.dat _) rfl) ?_
                            refine seq_split (j := 36) rfl rfl (fun h91 => ?_) (fun h91 => ?_) rfl
                            · have h92 := un1 h91
                              replace H := ift h92 H
                              obtain ⟨r93, h94, H⟩ := bnd H
                              refine seq_g0 rfl rfl h91 (stp_call (k_gatelaw2_balanced  r93 h94) trivial) ?_
                              refine seq_run0 (stp_pick_t rfl (bTT h92) rfl) ?_
                              refine seq_run0 (stp_assign (.dat _) rfl) ?_
                              exact ⟨r93, H, ⟨rfl, trivial⟩, trivial⟩
                            · have h95 := un2 h91
                              replace H := iff_ h95 H
                              refine seq_skip rfl rfl h91 ?_
                              refine seq_run0 (stp_pick_f rfl (bFF h95) rfl) ?_
                              refine seq_run0 (stp_assign (.dat _) rfl) ?_
                              exact ⟨false, H, ⟨rfl, trivial⟩, trivial⟩
                        · have h96 := un2 h79
                          replace H := iff_ h96 H
                          refine seq_skip rfl rfl h79 ?_
                          refine seq_skip rfl rfl h79 ?_
                          refine seq_skip rfl rfl h79 ?_
                          refine seq_skip rfl rfl h79 ?_
                          refine seq_skipU rfl rfl ?_
                          refine seq_skipU rfl rfl ?_
                          refine seq_skipU rfl rfl ?_
                          refine seq_skipU rfl rfl ?_
                          refine seq_skipU rfl rfl ?_
                          refine seq_skip rfl rfl h79 ?_
                          refine seq_skip rfl rfl h79 ?_
                          refine seq_run0 (stp_pick_f rfl (bFF h96) rfl) ?_
                          refine seq_run0 (stp_move (.dat _) rfl) ?_
                          refine seq_skip rfl rfl rfl ?_
                          refine seq_run0 (stp_pick_f rfl rfl rfl) ?_
                          refine seq_run0 (stp_assign (.dat _) rfl) ?_
                          exact ⟨false, H, ⟨rfl, trivial⟩, trivial⟩
                      · have h97 := un2 h77
                        replace H := iff_ h97 H
                        refine seq_skip rfl rfl h77 ?_
                        refine seq_skip rfl rfl h77 ?_
                        refine seq_skip rfl rfl h77 ?_
                        refine seq_run0 (stp_pick_f rfl (bFF h97) rfl) ?_
                        refine seq_run0 (stp_move (.dat _) rfl) ?_
                        refine seq_skip rfl rfl rfl ?_
                        refine seq_skip rfl rfl rfl ?_
                        refine seq_skip rfl rfl rfl ?_
                        refine seq_skip rfl rfl rfl ?_
                        refine seq_skipU rfl rfl ?_
                        refine seq_skipU rfl rfl ?_
                        refine seq_skipU rfl rfl ?_
                        refine seq_skipU rfl rfl ?_
                        refine seq_skipU rfl rfl ?_
                        refine seq_skip rfl rfl rfl ?_
                        refine seq_skip rfl rfl rfl ?_
                        refine seq_run0 (stp_pick_f rfl rfl rfl) ?_
                        refine seq_run0 (stp_move (.dat _) rfl) ?_
                        refine seq_skip rfl rfl rfl ?_
                        refine seq_run0 (stp_pick_f rfl rfl rfl) ?_
                        refine seq_run0 (stp_assign (.dat _) rfl) ?_
                        exact ⟨false, H, ⟨rfl, trivial⟩, trivial⟩
                    · have h98 := un2 h75
                      replace H := iff_ h98 H
                      refine seq_skip rfl rfl h75 ?_
                      refine seq_skip rfl rfl h75 ?_
                      refine seq_skip rfl rfl h75 ?_
                      refine seq_run0 (stp_pick_f rfl (bFF h98) rfl) ?_
                      refine seq_run0 (stp_move (.dat _) rfl) ?_
                      refine seq_skip rfl rfl rfl ?_
                      refine seq_skip rfl rfl rfl ?_
                      refine seq_skip rfl rfl rfl ?_
                      refine seq_run0 (stp_pick_f rfl rfl rfl) ?_
                      refine seq_run0 (stp_move (.dat _) rfl) ?_
                      refine seq_skip rfl rfl rfl ?_
                      refine seq_skip rfl rfl rfl ?_
                      refine seq_skip rfl rfl rfl ?_
                      refine seq_skip rfl rfl rfl ?_
                      refine seq_skipU rfl rfl ?_
                      refine seq_skipU rfl rfl ?_
                      refine seq_skipU rfl rfl ?_
                      refine seq_skipU rfl rfl ?_
                      refine seq_skipU rfl rfl ?_
                      refine seq_skip rfl rfl rfl ?_
                      refine seq_skip rfl rfl rfl ?_
                      refine seq_run0 (stp_pick_f rfl rfl rfl) ?_
                      refine seq_run0 (stp_move (.dat _) rfl) ?_
                      refine seq_skip rfl rfl rfl ?_
                      refine seq_run0 (stp_pick_f rfl rfl rfl) ?_
                      refine seq_run0 (stp_assign (.dat _) rfl) ?_
                      exact ⟨false, H, ⟨rfl, trivial⟩, trivial⟩
                  · have h99 := un2 h73
                    replace H := iff_ h99 H
                    refine seq_skip rfl rfl h73 ?_
                    refine seq_skip rfl rfl h73 ?_
                    refine seq_skip rfl rfl h73 ?_
                    refine seq_run0 (stp_pick_f rfl (bFF h99) rfl) ?_
                    refine seq_run0 (stp_move (.dat _) rfl) ?_
                    refine seq_skip rfl rfl rfl ?_
                    refine seq_skip rfl rfl rfl ?_
                    refine seq_skip rfl rfl rfl ?_
                    refine seq_run0 (stp_pick_f rfl rfl rfl) ?_
                    refine seq_run0 (stp_move (.dat _) rfl) ?_
                    refine seq_skip rfl rfl rfl ?_
                    refine seq_skip rfl rfl rfl ?_
                    refine seq_skip rfl rfl rfl ?_
                    refine seq_run0 (stp_pick_f rfl rfl rfl) ?_
                    refine seq_run0 (stp_move (.dat _) rfl) ?_
                    refine seq_skip rfl rfl rfl ?_
                    refine seq_skip rfl rfl rfl ?_
                    refine seq_skip rfl rfl rfl ?_
                    refine seq_skip rfl rfl rfl ?_
                    refine seq_skipU rfl rfl ?_
                    refine seq_skipU rfl rfl ?_
                    refine seq_skipU rfl rfl ?_
                    refine seq_skipU rfl rfl ?_
                    refine seq_skipU rfl rfl ?_
                    refine seq_skip rfl rfl rfl ?_
                    refine seq_skip rfl rfl rfl ?_
                    refine seq_run0 (stp_pick_f rfl rfl rfl) ?_
                    refine seq_run0 (stp_move (.dat _) rfl) ?_
                    refine seq_skip rfl rfl rfl ?_
                    refine seq_run0 (stp_pick_f rfl rfl rfl) ?_
                    refine seq_run0 (stp_assign (.dat _) rfl) ?_
                    exact ⟨false, H, ⟨rfl, trivial⟩, trivial⟩
                · have h100 := un2 h71
                  replace H := iff_ h100 H
                  refine seq_skip rfl rfl h71 ?_
                  refine seq_skip rfl rfl h71 ?_
                  refine seq_skip rfl rfl h71 ?_
                  refine seq_run0 (stp_pick_f rfl (bFF h100) rfl) ?_
                  refine seq_run0 (stp_move (.dat _) rfl) ?_
                  refine seq_skip rfl rfl rfl ?_
                  refine seq_skip rfl rfl rfl ?_
                  refine seq_skip rfl rfl rfl ?_
                  refine seq_run0 (stp_pick_f rfl rfl rfl) ?_
                  refine seq_run0 (stp_move (.dat _) rfl) ?_
                  refine seq_skip rfl rfl rfl ?_
                  refine seq_skip rfl rfl rfl ?_
                  refine seq_skip rfl rfl rfl ?_
                  refine seq_run0 (stp_pick_f rfl rfl rfl) ?_
                  refine seq_run0 (stp_move (.dat _) rfl) ?_
                  refine seq_skip rfl rfl rfl ?_
                  refine seq_skip rfl rfl rfl ?_
                  refine seq_skip rfl rfl rfl ?_
                  refine seq_run0 (stp_pick_f rfl rfl rfl) ?_
                  refine seq_run0 (stp_move (.dat _) rfl) ?_
                  refine seq_skip rfl rfl rfl ?_
                  refine seq_skip rfl rfl rfl ?_
                  refine seq_skip rfl rfl rfl ?_
                  refine seq_skip rfl rfl rfl ?_
                  refine seq_skipU rfl rfl ?_
                  refine seq_skipU rfl rfl ?_
                  refine seq_skipU rfl rfl ?_
                  refine seq_skipU rfl rfl ?_
                  refine seq_skipU rfl rfl ?_
                  refine seq_skip rfl rfl rfl ?_
                  refine seq_skip rfl rfl rfl ?_
                  refine seq_run0 (stp_pick_f rfl rfl rfl) ?_
                  refine seq_run0 (stp_move (.dat _) rfl) ?_
                  refine seq_skip rfl rfl rfl ?_
                  refine seq_run0 (stp_pick_f rfl rfl rfl) ?_
                  refine seq_run0 (stp_assign (.dat _) rfl) ?_
                  exact ⟨false, H, ⟨rfl, trivial⟩, trivial⟩
              · rintro v101 H
                replace H : gatelaw2_TriesAgain_J6 v101 = some r := H
                unfold gatelaw2_TriesAgain_J6 at H
                refine awp_ret ?_
                cases H
                exact ⟨trivial, .inl rfl, trivial⟩
        · rintro k59 x62 v58 q60 h102 h103 H hq60
          replace H : gatelaw2_TriesAgain_L3 k59 x62 v58 = some q60 := H
          unfold gatelaw2_TriesAgain_L3 at H
          refine awp_seq ?_
          refine awp_plain hN rfl ?_
          refine seq_run0 (stp_lss rfl rfl) ?_
          refine awp_seq ?_
          refine awp_cond _ rfl (fun h => ?_) (fun h => (lt_f h102 h).elim)
          refine awp_skip ?_
          refine awp_seq ?_
          refine awp_block ?_
          refine awp_seq ?_
          refine awp_plain hN rfl ?_
          refine seq_run0 (t_idx tyE22 (fun _ => rfl) rfl rfl h103) ?_
          refine seq_run0 (stp_loadE1 tyS3 rfl (map_at h103) rfl) ?_
          refine seq_run0 (stp_assign (.dat _) rfl) ?_
          refine awp_plain hN rfl ?_
          refine seq_run0 (stp_move (.dat _) rfl) ?_
          refine seq_run0 (stp_move (.dat _) rfl) ?_
          obtain ⟨r104, h105, H⟩ := bnd H
          refine seq_run0 (stp_call (k_gatelaw2_momentFault x62 r104 h105) ⟨.inl rfl, trivial⟩) ?_
          refine seq_run0 (stp_dat (u' := vlst (List.map C_api_Errno [v58, r104])) (stp_lit [[_], [_]] tyL143 ⟨rfl, .inl ⟨_, rfl, rfl, rfl⟩, rfl, rfl, .inl ⟨_, rfl, rfl, rfl⟩, rfl, trivial⟩ rfl rfl) rfl) ?_
          obtain ⟨r106, h107, H⟩ := bnd H
          refine seq_run0 (stp_call (k_gatelaw2_errs [v58, r104] r106 h107) ⟨.inl rfl, trivial⟩) ?_
          refine seq_run0 (stp_assign (.dat _) rfl) ?_
          refine awp_plain hN rfl ?_
          refine seq_run0 (stp_add rfl rfl (by omega)) ?_
          refine seq_run0 (stp_move (.dat _) rfl) ?_
          exact ⟨_, backl H, ⟨rfl, rfl, rfl, rfl, rfl, rfl, rfl, rfl, rfl, rfl, rfl, rfl, rfl, rfl, rfl, rfl, rfl, rfl, rfl, rfl, rfl, trivial⟩, ⟨rfl, trivial⟩⟩
  · rintro k7 ⟨c4, c5, l6⟩ q8 h108 H hq8
    replace H : gatelaw2_TriesAgain_L1 k7 c4 c5 l6 = some q8 := H
    unfold gatelaw2_TriesAgain_L1 at H
    refine awp_seq ?_
    refine awp_plain hN rfl ?_
    refine seq_run0 (stp_lss rfl rfl) ?_
    refine awp_seq ?_
    refine awp_cond _ rfl (fun h => ?_) (fun h => (lt_fI h108 h).elim)
    refine awp_skip ?_
    refine awp_seq ?_
    refine awp_block ?_
    refine awp_plain hN rfl ?_
    refine seq_run0 (stp_move (.row _ _) rfl) ?_
    refine seq_run0 (stp_move (.ptr _ _) rfl) ?_
    refine seq_run0 (stp_dat (u' := vlst (List.map C_int [0, 1, 2, 5, 9, (-4), 100])) (stp_lit [[_], [_], [_], [_], [_], [_], [_]] tyL22 ⟨rfl, .inl ⟨_, rfl, rfl, rfl⟩, rfl, rfl, .inl ⟨_, rfl, rfl, rfl⟩, rfl, rfl, .inl ⟨_, rfl, rfl, rfl⟩, rfl, rfl, .inl ⟨_, rfl, rfl, rfl⟩, rfl, rfl, .inl ⟨_, rfl, rfl, rfl⟩, rfl, rfl, .inl ⟨_, rfl, rfl, rfl⟩, rfl, rfl, .inl ⟨_, rfl, rfl, rfl⟩, rfl, trivial⟩ rfl rfl) rfl) ?_
    obtain ⟨r109, h110, H⟩ := bnd H
    refine seq_run2 (stp_imp (k_gatemake_Stream_Pick (S_gatemake_Stream.mk c4 c5) [0, 1, 2, 5, 9, (-4), 100] r109 h110) rfl ⟨.inl rfl, trivial⟩ rfl) rfl ?_
    refine seq_run0 (stp_dat (u' := vlst (List.map C_int [r109.1])) (stp_lit [[_]] tyL22 ⟨rfl, .inl ⟨_, rfl, rfl, rfl⟩, rfl, trivial⟩ rfl rfl) rfl) ?_
    obtain ⟨h111, H⟩ := gif H
    refine seq_run2 (t_app tyL22 (fun _ => rfl) rfl rfl rfl ⟨by simp, by simpa using h111⟩ rfl) rfl ?_
    refine seq_run0 (stp_assign (.row _ _) rfl) ?_
    refine awp_plain hN rfl ?_
    refine seq_run0 (stp_add rfl rfl (by omega)) ?_
    refine seq_run0 (stp_move (.dat _) rfl) ?_
    exact ⟨_, backl H, ⟨rfl, rfl, rfl, rfl, trivial⟩, ⟨rfl, rfl, trivial⟩⟩
end Go.Proofs.Ytmcegaabopcmfaa
