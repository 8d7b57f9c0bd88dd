/- Walks along the models. Printed by a program. -/
import Derived.Test.YtpeeeanmfmhlgaaYsw1
namespace Go.Proofs.Ytpeeeanmfmhlgaa
open Go.RowKit
set_option linter.unusedVariables false
set_option maxRecDepth 20000
theorem k_token_Uncovered (v1 : (List S_api_Signer)) (v2 : S_api_Window) (v3 : Int) (r : ((List S_api_Window) × Int)) (H : m_token_Uncovered v1 v2 v3 = some r) : Fn Try.prog 18 [vlst (List.map C_api_Signer v1), vagg (C_api_Window v2), vint v3] (resOf [vlst (List.map C_api_Window r.1), vint r.2]) := by
  refine ⟨by kernel_rfl, pure_of (us := [vlst (List.map C_api_Window r.1), vint r.2]) Try.func18 rfl rfl rfl rfl fun X hN => ?_⟩
  unfold m_token_Uncovered at H
  refine awp_seq ?_
  refine awp_plain hN rfl ?_
  refine seq_run2 (stp_boxA 1 rfl) rfl ?_
  refine seq_run0 (stp_assign (.dat _) rfl) ?_
  refine seq_run0 (stp_assign (.dat _) rfl) ?_
  refine awp_seq ?_
  refine awp_seq ?_
  refine awp_plain hN rfl ?_
  refine seq_run0 (stp_move (.dat _) rfl) ?_
  obtain ⟨r4, h5, H⟩ := bnd H
  refine seq_run0 (stp_call (k_token_CheckSigners v1 r4 h5) ⟨.inl rfl, trivial⟩) ?_
  refine seq_run0 (stp_assign (.dat _) rfl) ?_
  refine awp_seq ?_
  refine awp_plain hN rfl ?_
  refine seq_run0 (stp_move (.dat _) rfl) ?_
  refine seq_run0 (stp_neq rfl rfl) ?_
  refine awp_cond _ rfl (fun h6 => ?_) (fun h6 => ?_)
  · replace H := ift h6 H
    refine awp_seq ?_
    refine awp_plain hN rfl ?_
    refine seq_run0 (stp_move (.dat _) rfl) ?_
    refine seq_run0 (stp_assign (.dat _) rfl) ?_
    refine seq_run0 (stp_assign (.dat _) rfl) ?_
    refine awp_ret ?_
    cases H
    exact ⟨trivial, .inr ⟨rfl, rfl⟩, .inl rfl, trivial⟩
  · replace H := iff_ h6 H
    refine awp_skip ?_
    refine awp_seq ?_
    refine awp_joinE (ι := Bool) (fun i => [(0, .dat (vlst (List.map C_api_Signer v1))), (2, .dat (vint v3)), (4, .ptr 1 0), (37, .dat (vbool i))]) (fun i => [(1, .box none 42 [.dat (vint v2.From), .dat (vint v2.To)])]) (fun i => token_Uncovered_J1 v1 v2 v3 i = some r) (fun i => rfl) ?_ ?_
    · skip
      refine awp_plain hN rfl ?_
      refine seq_run0 (stp_fldP tyF42_0 rfl) ?_
      refine seq_run1 (stp_load1 tyS3 rfl rfl) rfl ?_
      refine seq_run0 (stp_fldP tyF42_1 rfl) ?_
      refine seq_run1 (stp_load1 tyS3 rfl rfl) rfl ?_
      obtain ⟨r7, h8, H⟩ := bnd H
      refine seq_run0 (stp_call (k_kit_Outside v2.From 0 v2.To r7 h8) ⟨.inl rfl, .inl rfl, .inl rfl, trivial⟩) ?_
      refine seq_run0 (stp_move (.dat _) rfl) ?_
      refine seq_split (j := 5) rfl rfl (fun h9 => ?_) (fun h9 => ?_) rfl
      · have h10 := un3 h9
        replace H := iff_ h10 H
        refine seq_g0 rfl rfl h9 (stp_fldP tyF42_1 rfl) ?_
        refine seq_g1 rfl rfl h9 (stp_load1 tyS3 rfl rfl) rfl ?_
        refine seq_g0 rfl rfl h9 (stp_gtr rfl rfl) ?_
        refine seq_run0 (stp_pick_f rfl (bFF h10) rfl) ?_
        refine seq_run0 (stp_move (.dat _) rfl) ?_
        refine seq_split (j := 10) rfl rfl (fun h11 => ?_) (fun h11 => ?_) rfl
        · have h12 := un3 h11
          replace H := iff_ h12 H
          refine seq_g0 rfl rfl h11 (stp_move (.dat _) rfl) ?_
          obtain ⟨r13, h14, H⟩ := bnd H
          refine seq_g0 rfl rfl h11 (stp_call (k_kit_Outside v3 0 345686400000 r13 h14) ⟨.inl rfl, .inl rfl, .inl rfl, trivial⟩) ?_
          refine seq_run0 (stp_pick_f rfl (bFF h12) rfl) ?_
          exact ⟨r13, H, ⟨rfl, rfl, rfl, rfl, trivial⟩, ⟨rfl, trivial⟩⟩
        · have h15 := un4 h11
          replace H := ift h15 H
          refine seq_skip rfl rfl h11 ?_
          refine seq_skip rfl rfl h11 ?_
          refine seq_run0 (stp_pick_t rfl (bTT h15) rfl) ?_
          exact ⟨true, H, ⟨rfl, rfl, rfl, rfl, trivial⟩, ⟨rfl, trivial⟩⟩
      · have h16 := un4 h9
        replace H := ift h16 H
        refine seq_skip rfl rfl h9 ?_
        refine seq_skip rfl rfl h9 ?_
        refine seq_skip rfl rfl h9 ?_
        refine seq_run0 (stp_pick_t rfl (bTT h16) rfl) ?_
        refine seq_run0 (stp_move (.dat _) rfl) ?_
        refine seq_skip rfl rfl rfl ?_
        refine seq_skip rfl rfl rfl ?_
        refine seq_run0 (stp_pick_t rfl rfl rfl) ?_
        exact ⟨true, H, ⟨rfl, rfl, rfl, rfl, trivial⟩, ⟨rfl, trivial⟩⟩
    · rintro v17 H
      replace H : token_Uncovered_J1 v1 v2 v3 v17 = some r := H
      unfold token_Uncovered_J1 at H
      refine awp_cond _ rfl (fun h18 => ?_) (fun h18 => ?_)
      · replace H := ift h18 H
        refine awp_seq ?_
        refine awp_plain hN rfl ?_
        refine seq_run0 (stp_assign (.dat _) rfl) ?_
        refine seq_run0 (stp_assign (.dat _) rfl) ?_
        refine awp_ret ?_
        cases H
        exact ⟨trivial, .inr ⟨rfl, rfl⟩, .inl rfl, trivial⟩
      · replace H := iff_ h18 H
        refine awp_skip ?_
        refine awp_seq ?_
        refine awp_plain hN rfl ?_
        refine seq_run0 (stp_fldP tyF42_0 rfl) ?_
        refine seq_run1 (stp_load1 tyS3 rfl rfl) rfl ?_
        refine seq_run0 (stp_fldP tyF42_1 rfl) ?_
        refine seq_run1 (stp_load1 tyS3 rfl rfl) rfl ?_
        refine seq_run2 (t_litR (C := C_int) 2 ([v2.From, v2.To] : (List Int)) tyL22 ⟨rfl, .inl ⟨_, rfl, rfl, rfl⟩, rfl, rfl, .inl ⟨_, rfl, rfl, rfl⟩, rfl, trivial⟩ rfl rfl rfl) rfl ?_
        refine seq_run0 (stp_assign (.row _ _) rfl) ?_
        refine awp_seq ?_
        refine awp_seq ?_
        refine awp_plain hN rfl ?_
        refine seq_run0 (stp_move (.dat _) rfl) ?_
        refine seq_run0 (t_len tyU26 rfl) ?_
        refine seq_run0 (stp_move (.dat _) rfl) ?_
        refine awp_block ?_
        obtain ⟨h22, H⟩ := gif H
        refine awp_forL (fun (k20 : Nat) (s : (List Int)) => [(0, .dat (vlst (List.map C_api_Signer v1))), (2, .dat (vint v3)), (4, .ptr 1 0), (9, .row 2 s.length), (43, .dat (vlst (List.map C_api_Signer v1))), (44, .dat (vint (v1.length : Int))), (45, .dat (vint (k20 : Int)))]) (fun (k20 : Nat) (s : (List Int)) => [(1, .box none 42 [.dat (vint v2.From), .dat (vint v2.To)]), (2, .row 3 1 (List.map C_int s))]) ([v2.From, v2.To] : (List Int)) H ⟨rfl, rfl, rfl, rfl, rfl, rfl, rfl, trivial⟩ ⟨rfl, rfl, trivial⟩ (fun _ _ => rfl) ?_ ?_
        · rintro l19 H
          replace H : token_Uncovered_E2 v1 v3 l19 = some r := H
          unfold token_Uncovered_E2 at H
          refine awp_seq ?_
          refine awp_plain hN rfl ?_
          refine seq_run0 (stp_lss rfl rfl) ?_
          refine awp_seq ?_
          refine awp_cond _ rfl (fun h => (lt_t h).elim) (fun h => ?_)
          refine awp_exit ?_
          refine awp_seq ?_
          refine awp_plain hN rfl ?_
          refine seq_run0 (stp_move (.row _ _) rfl) ?_
          obtain ⟨r24, h25, H⟩ := bnd H
          refine seq_callG (rn [(0, 2)]) [(0, _, _, some _)] [] (kt_slices_Sort_L_int_int_ l19 r24 h25) ⟨rfl, trivial⟩ ⟨.inl (.inl rfl), trivial⟩ ⟨⟨⟨rfl, rfl, rfl⟩, by simp [stayP, sort_len h25]⟩, trivial⟩ rfl ?_
          refine awp_seq ?_
          refine awp_plain hN rfl ?_
          refine seq_run0 (stp_move (.row _ _) rfl) ?_
          obtain ⟨r26, h27, H⟩ := bnd H
          refine seq_callG (rn [(0, 2), (900, 3)]) [(0, _, _, none)] [(900, _)] (ks_slices_Compact_L_int_int_ r24 r26 h27) ⟨rfl, rfl, trivial⟩ ⟨.inl (.inl (congrArg (Slot.row 2) (sort_len h25).symm)), trivial⟩ ⟨⟨⟨rfl, rfl, rfl⟩, trivial⟩, trivial⟩ rfl ?_
          refine seq_run0 (stp_assign (.row _ _) rfl) ?_
          refine awp_seq ?_
          refine awp_plain hN rfl ?_
          refine seq_run0 (stp_assign (.dat _) rfl) ?_
          refine awp_joinE (ι := (List S_api_Window)) (fun i => [(14, .row 4 i.length)]) (fun i => [(4, .row 42 2 (List.map C_api_Window i))]) (fun i => token_Uncovered_J3 i = some r) (fun i => rfl) ?_ ?_
          · skip
            refine awp_seq ?_
            refine awp_plain hN rfl ?_
            refine seq_run0 (stp_assign (.dat _) rfl) ?_
            refine awp_block ?_
            refine awp_nilrow 14 4 42 2 rfl rfl rfl ?_
            refine awp_iter (fun (s : Int × (List S_api_Window)) => [(0, .dat (vlst (List.map C_api_Signer v1))), (2, .dat (vint v3)), (9, .row 3 r26.length), (14, .row 4 s.2.length), (15, .dat (vint s.1))]) (fun (s : Int × (List S_api_Window)) => [(3, .row 3 1 (List.map C_int r26)), (4, .row 42 2 (List.map C_api_Window s.2))]) (0, []) H ⟨rfl, rfl, rfl, congrArg (Slot.row 4) (by simp), rfl, trivial⟩ ⟨rfl, rfl, trivial⟩ (fun _ => rfl) ?_
            rintro ⟨v28, l29⟩ q30 H hq30
            replace H : token_Uncovered_L4 v1 v3 r26 v28 l29 = some q30 := H
            unfold token_Uncovered_L4 at H
            refine awp_seq ?_
            refine awp_seq ?_
            refine awp_plain hN rfl ?_
            refine seq_run0 (stp_move (.dat _) rfl) ?_
            refine seq_run0 (stp_wrap _ rfl rfl (.inl ⟨rfl, rfl⟩)) ?_
            refine seq_run0 (stp_move (.row _ _) rfl) ?_
            refine seq_run1 (t_lenR tyU22 rfl rfl) rfl ?_
            refine seq_run0 (stp_lss rfl rfl) ?_
            refine awp_cond _ rfl (fun h31 => ?_) (fun h31 => ?_)
            · replace H := ift h31 H
              refine awp_skip ?_
              refine awp_joinE (ι := (List S_api_Window)) (fun i => [(0, .dat (vlst (List.map C_api_Signer v1))), (2, .dat (vint v3)), (9, .row 3 r26.length), (14, .row 4 i.length), (15, .dat (vint v28))]) (fun i => [(3, .row 3 1 (List.map C_int r26)), (4, .row 42 2 (List.map C_api_Window i))]) (fun i => token_Uncovered_J5 v28 i = some q30) (fun i => rfl) ?_ ?_
              · skip
                refine awp_block ?_
                refine awp_seq ?_
                refine awp_plain hN rfl ?_
                refine seq_run0 (stp_move (.dat _) rfl) ?_
                refine seq_run0 (stp_move (.row _ _) rfl) ?_
                refine seq_run0 (stp_move (.dat _) rfl) ?_
                obtain ⟨x32, h33, H⟩ := bnd H
                refine seq_run1 (t_idxRI tyE22 rfl rfl rfl h33) rfl ?_
                refine seq_run1 (t_loadR1 tyS3 rfl rfl (at_some h33).2 rfl) rfl ?_
                obtain ⟨r34, h35, H⟩ := bnd H
                refine seq_run0 (stp_call (k_token_signerAt v1 x32 r34 h35) ⟨.inl rfl, .inl rfl, trivial⟩) ?_
                refine seq_run0 (stp_move (.dat _) rfl) ?_
                refine seq_run0 (stp_ext rfl rfl) ?_
                refine seq_run0 (stp_ext rfl rfl) ?_
                refine seq_run2 (stp_alloc 5 tyZ38 rfl) rfl ?_
                refine seq_run2 (stp_storeW tyS38 rfl rfl rfl rfl) rfl ?_
                refine seq_run0 (stp_assign (.dat _) rfl) ?_
                refine awp_seq ?_
                refine awp_joinE (ι := Bool) (fun i => [(0, .dat (vlst (List.map C_api_Signer v1))), (2, .dat (vint v3)), (9, .row 3 r26.length), (14, .row 4 l29.length), (15, .dat (vint v28)), (111, .dat (vbool i))]) (fun i => [(3, .row 3 1 (List.map C_int r26)), (4, .row 42 2 (List.map C_api_Window l29))]) (fun i => token_Uncovered_J6 r26 v28 l29 x32 i = some q30) (fun i => rfl) ?_ ?_
                · skip
                  refine awp_draw mixed hN rfl rfl ?_
                  refine seq_run0 (stp_move (.dat _) rfl) ?_
                  refine seq_run0 (stp_move (.dat _) rfl) ?_
                  refine seq_split (j := 1) rfl rfl (fun h36 => ?_) (fun h36 => ?_) rfl
                  · have h37 := un1 h36
                    replace H := ift h37 H
                    refine seq_g0 rfl rfl h36 (stp_fldP tyF38_4 rfl) ?_
                    refine seq_g1 rfl rfl h36 (stp_load1 tyS3 rfl rfl) rfl ?_
                    refine seq_g0 rfl rfl h36 (stp_move (.row _ _) rfl) ?_
                    refine seq_g0 rfl rfl h36 (stp_move (.dat _) rfl) ?_
                    refine seq_g1 rfl rfl h36 (t_idxRI tyE22 rfl rfl rfl h33) rfl ?_
                    refine seq_g1 rfl rfl h36 (t_loadR1 tyS3 rfl rfl (at_some h33).2 rfl) rfl ?_
                    refine seq_g0 rfl rfl h36 (stp_move (.dat _) rfl) ?_
                    refine seq_g0 rfl rfl h36 (stp_wrap _ rfl rfl (.inl ⟨rfl, rfl⟩)) ?_
                    refine seq_g0 rfl rfl h36 (stp_geq rfl rfl) ?_
                    refine seq_run0 (stp_pick_t rfl (bTT h37) rfl) ?_
                    refine ⟨rfl, ?_⟩
                    exact ⟨decide ((wr (x32 + v3)) ≤ r34.1.Until), H, ⟨rfl, rfl, rfl, rfl, rfl, rfl, trivial⟩, ⟨rfl, rfl, trivial⟩⟩
                  · have h38 := un2 h36
                    replace H := iff_ h38 H
                    refine seq_skip rfl rfl h36 ?_
                    refine seq_skip rfl rfl h36 ?_
                    refine seq_skip rfl rfl h36 ?_
                    refine seq_skip rfl rfl h36 ?_
                    refine seq_skip rfl rfl h36 ?_
                    refine seq_skip rfl rfl h36 ?_
                    refine seq_skip rfl rfl h36 ?_
                    refine seq_skip rfl rfl h36 ?_
                    refine seq_skip rfl rfl h36 ?_
                    refine seq_run0 (stp_pick_f rfl (bFF h38) rfl) ?_
                    refine ⟨rfl, ?_⟩
                    exact ⟨false, H, ⟨rfl, rfl, rfl, rfl, rfl, rfl, trivial⟩, ⟨rfl, rfl, trivial⟩⟩
                · rintro v39 H
                  replace H : token_Uncovered_J6 r26 v28 l29 x32 v39 = some q30 := H
                  unfold token_Uncovered_J6 at H
                  refine awp_cond _ rfl (fun h40 => ?_) (fun h40 => ?_)
                  · replace H := ift h40 H
                    refine awp_exit ?_
                    exact ⟨l29, H, ⟨rfl, rfl, rfl, rfl, rfl, trivial⟩, ⟨rfl, rfl, trivial⟩⟩
                  · replace H := iff_ h40 H
                    refine awp_skip ?_
                    refine awp_seq ?_
                    refine awp_seq ?_
                    refine awp_plain hN rfl ?_
                    refine seq_run0 (stp_move (.row _ _) rfl) ?_
                    refine seq_run1 (t_lenR tyU47 rfl rfl) rfl ?_
                    refine seq_run0 (stp_wrap _ rfl rfl (.inr (.inl ⟨rfl, rfl⟩))) ?_
                    refine seq_run0 (stp_assign (.dat _) rfl) ?_
                    refine awp_joinE (ι := Bool) (fun i => [(0, .dat (vlst (List.map C_api_Signer v1))), (2, .dat (vint v3)), (9, .row 3 r26.length), (14, .row 4 l29.length), (15, .dat (vint v28)), (18, .dat (vint (wr ((l29.length : Int) - 1)))), (128, .dat (vbool i))]) (fun i => [(3, .row 3 1 (List.map C_int r26)), (4, .row 42 2 (List.map C_api_Window l29))]) (fun i => token_Uncovered_J7 r26 v28 l29 x32 i = some q30) (fun i => rfl) ?_ ?_
                    · skip
                      refine awp_draw mixed hN rfl rfl ?_
                      refine seq_run0 (stp_move (.dat _) rfl) ?_
                      refine seq_run0 (stp_geq rfl rfl) ?_
                      refine seq_run0 (stp_move (.dat _) rfl) ?_
                      refine seq_split (j := 2) rfl rfl (fun h41 => ?_) (fun h41 => ?_) rfl
                      · have h42 := un1 h41
                        replace H := ift h42 H
                        refine seq_g0 rfl rfl h41 (stp_move (.row _ _) rfl) ?_
                        refine seq_g0 rfl rfl h41 (stp_move (.dat _) rfl) ?_
                        obtain ⟨x43, h44, H⟩ := bnd H
                        refine seq_g1 rfl rfl h41 (t_idxRI tyE47 rfl rfl rfl h44) rfl ?_
                        refine seq_g0 rfl rfl h41 (stp_fldR tyF42_1 rfl) ?_
                        refine seq_g1 rfl rfl h41 (t_loadR1 tyS3 rfl rfl (at_some h44).2 rfl) rfl ?_
                        refine seq_g0 rfl rfl h41 (stp_move (.row _ _) rfl) ?_
                        refine seq_g0 rfl rfl h41 (stp_move (.dat _) rfl) ?_
                        refine seq_g1 rfl rfl h41 (t_idxRI tyE22 rfl rfl rfl h33) rfl ?_
                        refine seq_g1 rfl rfl h41 (t_loadR1 tyS3 rfl rfl (at_some h33).2 rfl) rfl ?_
                        refine seq_g0 rfl rfl h41 (stp_eql rfl rfl) ?_
                        refine seq_run0 (stp_pick_t rfl (bTT h42) rfl) ?_
                        refine ⟨rfl, ?_⟩
                        exact ⟨decide (x43.To = x32), H, ⟨rfl, rfl, rfl, rfl, rfl, rfl, rfl, trivial⟩, ⟨rfl, rfl, trivial⟩⟩
                      · have h45 := un2 h41
                        replace H := iff_ h45 H
                        refine seq_skip rfl rfl h41 ?_
                        refine seq_skip rfl rfl h41 ?_
                        refine seq_skip rfl rfl h41 ?_
                        refine seq_skip rfl rfl h41 ?_
                        refine seq_skip rfl rfl h41 ?_
                        refine seq_skip rfl rfl h41 ?_
                        refine seq_skip rfl rfl h41 ?_
                        refine seq_skip rfl rfl h41 ?_
                        refine seq_skip rfl rfl h41 ?_
                        refine seq_skip rfl rfl h41 ?_
                        refine seq_run0 (stp_pick_f rfl (bFF h45) rfl) ?_
                        refine ⟨rfl, ?_⟩
                        exact ⟨false, H, ⟨rfl, rfl, rfl, rfl, rfl, rfl, rfl, trivial⟩, ⟨rfl, rfl, trivial⟩⟩
                    · rintro v46 H
                      replace H : token_Uncovered_J7 r26 v28 l29 x32 v46 = some q30 := H
                      unfold token_Uncovered_J7 at H
                      refine awp_cond _ rfl (fun h47 => ?_) (fun h47 => ?_)
                      · replace H := ift h47 H
                        refine awp_seq ?_
                        refine awp_plain hN rfl ?_
                        refine seq_run0 (stp_move (.row _ _) rfl) ?_
                        refine seq_run0 (stp_move (.dat _) rfl) ?_
                        refine seq_run0 (stp_move (.row _ _) rfl) ?_
                        refine seq_run0 (stp_move (.dat _) rfl) ?_
                        refine seq_run0 (stp_wrap _ rfl rfl (.inl ⟨rfl, rfl⟩)) ?_
                        obtain ⟨x48, h49, H⟩ := bnd H
                        refine seq_run1 (t_idxRI tyE22 rfl rfl rfl h49) rfl ?_
                        refine seq_run1 (t_loadR1 tyS3 rfl rfl (at_some h49).2 rfl) rfl ?_
                        obtain ⟨x50, h51, H⟩ := bnd H
                        refine seq_run1 (t_idxRI tyE47 rfl rfl rfl h51) rfl ?_
                        refine seq_run0 (stp_fldR tyF42_1 rfl) ?_
                        refine seq_run2 (t_storeR (S_api_Window.mk x50.From x48) tyS3 rfl rfl rfl rfl (at_some h51).2 rfl rfl) rfl ?_
                        refine awp_exit ?_
                        exact ⟨(l29.set ((wr ((l29.length : Int) - 1)).toNat) (S_api_Window.mk x50.From x48)), H, ⟨rfl, rfl, rfl, congrArg (Slot.row 4) (by simp), rfl, trivial⟩, ⟨rfl, rfl, trivial⟩⟩
                      · replace H := iff_ h47 H
                        refine awp_skip ?_
                        refine awp_draw mixed hN rfl rfl ?_
                        refine seq_run0 (stp_move (.row _ _) rfl) ?_
                        refine seq_run0 (stp_move (.row _ _) rfl) ?_
                        refine seq_run0 (stp_move (.dat _) rfl) ?_
                        refine seq_run1 (t_idxRI tyE22 rfl rfl rfl h33) rfl ?_
                        refine seq_run1 (t_loadR1 tyS3 rfl rfl (at_some h33).2 rfl) rfl ?_
                        refine seq_run0 (stp_move (.row _ _) rfl) ?_
                        refine seq_run0 (stp_move (.dat _) rfl) ?_
                        refine seq_run0 (stp_wrap _ rfl rfl (.inl ⟨rfl, rfl⟩)) ?_
                        obtain ⟨x52, h53, H⟩ := bnd H
                        refine seq_run1 (t_idxRI tyE22 rfl rfl rfl h53) rfl ?_
                        refine seq_run1 (t_loadR1 tyS3 rfl rfl (at_some h53).2 rfl) rfl ?_
                        refine seq_run0 (stp_dat (u' := vagg (C_api_Window (S_api_Window.mk x32 x52))) (stp_build [(0, [vint x32]), (1, [vint x52])] tyZ42 tyP42 rfl ⟨rfl, .inl ⟨_, rfl, rfl, rfl⟩, rfl, rfl, .inl ⟨_, rfl, rfl, rfl⟩, rfl, trivial⟩) rfl) ?_
                        refine seq_run0 (stp_dat (u' := vlst (List.map C_api_Window [(S_api_Window.mk x32 x52)])) (stp_lit [_] tyL47 ⟨rfl, .inr rfl, rfl, trivial⟩ rfl rfl) rfl) ?_
                        obtain ⟨h54, H⟩ := gif H
                        refine seq_run2 (t_app tyL47 (fun _ => rfl) rfl rfl rfl ⟨by simp, by simpa using h54⟩ rfl) rfl ?_
                        refine seq_run0 (stp_assign (.row _ _) rfl) ?_
                        refine ⟨rfl, ?_⟩
                        exact ⟨(l29 ++ [(S_api_Window.mk x32 x52)]), H, ⟨rfl, rfl, rfl, rfl, rfl, trivial⟩, ⟨rfl, rfl, trivial⟩⟩
              · rintro v55 H
                replace H : token_Uncovered_J5 v28 v55 = some q30 := H
                unfold token_Uncovered_J5 at H
                refine awp_plain hN rfl ?_
                refine seq_run0 (stp_move (.dat _) rfl) ?_
                refine seq_run0 (stp_wrap _ rfl rfl (.inl ⟨rfl, rfl⟩)) ?_
                refine seq_run0 (stp_assign (.dat _) rfl) ?_
                exact ⟨_, backl H, ⟨rfl, rfl, rfl, rfl, rfl, trivial⟩, ⟨rfl, rfl, trivial⟩⟩
            · replace H := iff_ h31 H
              refine awp_exit ?_
              replace H := outl H hq30
              exact ⟨l29, H, ⟨rfl, trivial⟩, ⟨rfl, trivial⟩⟩
          · rintro v56 H
            replace H : token_Uncovered_J3 v56 = some r := H
            unfold token_Uncovered_J3 at H
            refine awp_seq ?_
            refine awp_plain hN rfl ?_
            refine seq_run0 (stp_move (.row _ _) rfl) ?_
            refine seq_run0 (stp_assign (.row _ _) rfl) ?_
            refine seq_run0 (stp_assign (.dat _) rfl) ?_
            refine awp_ret ?_
            cases H
            exact ⟨trivial, t_slotv rfl rfl, .inl rfl, trivial⟩
        · rintro k20 x23 l19 q21 h57 h58 H hq21
          replace H : token_Uncovered_L2 v2 v3 k20 x23 l19 = some q21 := H
          unfold token_Uncovered_L2 at H
          refine awp_seq ?_
          refine awp_plain hN rfl ?_
          refine seq_run0 (stp_lss rfl rfl) ?_
          refine awp_seq ?_
          refine awp_cond _ rfl (fun h => ?_) (fun h => (lt_f h57 h).elim)
          refine awp_skip ?_
          refine awp_seq ?_
          refine awp_block ?_
          refine awp_seq ?_
          refine awp_plain hN rfl ?_
          refine seq_run0 (t_idx tyE26 (fun _ => rfl) rfl rfl h58) ?_
          refine seq_run0 (stp_loadEA tyS38 rfl (map_at h58) rfl) ?_
          refine seq_run2 (stp_alloc 6 tyZ38 rfl) rfl ?_
          refine seq_run2 (stp_storeW tyS38 rfl rfl rfl rfl) rfl ?_
          refine awp_seq ?_
          refine awp_plain hN rfl ?_
          refine seq_run0 (stp_fldP tyF38_2 rfl) ?_
          refine seq_run1 (stp_load1 tyS3 rfl rfl) rfl ?_
          refine seq_run0 (stp_fldP tyF38_3 rfl) ?_
          refine seq_run1 (stp_load1 tyS3 rfl rfl) rfl ?_
          refine seq_run0 (stp_fldP tyF38_4 rfl) ?_
          refine seq_run1 (stp_load1 tyS3 rfl rfl) rfl ?_
          refine seq_run0 (stp_move (.dat _) rfl) ?_
          refine seq_run0 (stp_wrap _ rfl rfl (.inr (.inl ⟨rfl, rfl⟩))) ?_
          refine seq_run0 (stp_wrap _ rfl rfl (.inl ⟨rfl, rfl⟩)) ?_
          refine seq_run0 (stp_dat (u' := vlst (List.map C_int [x23.From, x23.To, wr ((wr (x23.Until - v3)) + 1)])) (stp_lit [[_], [_], [_]] tyL22 ⟨rfl, .inl ⟨_, rfl, rfl, rfl⟩, rfl, rfl, .inl ⟨_, rfl, rfl, rfl⟩, rfl, rfl, .inl ⟨_, rfl, rfl, rfl⟩, rfl, trivial⟩ rfl rfl) rfl) ?_
          refine seq_run0 (t_len tyU22 rfl) ?_
          refine seq_run0 (stp_move (.dat _) rfl) ?_
          refine awp_block ?_
          obtain ⟨h62, H⟩ := gif H
          refine awp_forL (fun (k60 : Nat) (s : (List Int)) => [(0, .dat (vlst (List.map C_api_Signer v1))), (2, .dat (vint v3)), (4, .ptr 1 0), (9, .row 2 s.length), (43, .dat (vlst (List.map C_api_Signer v1))), (44, .dat (vint (v1.length : Int))), (45, .dat (vint (k20 : Int))), (58, .dat (vlst (List.map C_int [x23.From, x23.To, wr ((wr (x23.Until - v3)) + 1)]))), (59, .dat (vint ([x23.From, x23.To, wr ((wr (x23.Until - v3)) + 1)].length : Int))), (60, .dat (vint (k60 : Int)))]) (fun (k60 : Nat) (s : (List Int)) => [(1, .box none 42 [.dat (vint v2.From), .dat (vint v2.To)]), (2, .row 3 1 (List.map C_int s))]) l19 H ⟨rfl, rfl, rfl, rfl, rfl, rfl, rfl, rfl, rfl, rfl, trivial⟩ ⟨rfl, rfl, trivial⟩ (fun _ _ => rfl) ?_ ?_
          · rintro l59 H
            replace H : token_Uncovered_E8 l59 = some q21 := H
            unfold token_Uncovered_E8 at H
            refine awp_seq ?_
            refine awp_plain hN rfl ?_
            refine seq_run0 (stp_lss rfl rfl) ?_
            refine awp_seq ?_
            refine awp_cond _ rfl (fun h => (lt_t h).elim) (fun h => ?_)
            refine awp_exit ?_
            refine awp_plain hN rfl ?_
            refine seq_run0 (stp_add rfl rfl (by omega)) ?_
            refine seq_run0 (stp_move (.dat _) rfl) ?_
            exact ⟨_, backl H, ⟨rfl, rfl, rfl, rfl, rfl, rfl, rfl, trivial⟩, ⟨rfl, rfl, trivial⟩⟩
          · rintro k60 x63 l59 q61 h64 h65 H hq61
            replace H : token_Uncovered_L8 v2 k60 x63 l59 = some q61 := H
            unfold token_Uncovered_L8 at H
            refine awp_seq ?_
            refine awp_plain hN rfl ?_
            refine seq_run0 (stp_lss rfl rfl) ?_
            refine awp_seq ?_
            refine awp_cond _ rfl (fun h => ?_) (fun h => (lt_f h64 h).elim)
            refine awp_skip ?_
            refine awp_joinE (ι := (List Int)) (fun i => [(0, .dat (vlst (List.map C_api_Signer v1))), (2, .dat (vint v3)), (4, .ptr 1 0), (9, .row 2 i.length), (43, .dat (vlst (List.map C_api_Signer v1))), (44, .dat (vint (v1.length : Int))), (45, .dat (vint (k20 : Int))), (58, .dat (vlst (List.map C_int [x23.From, x23.To, wr ((wr (x23.Until - v3)) + 1)]))), (59, .dat (vint ([x23.From, x23.To, wr ((wr (x23.Until - v3)) + 1)].length : Int))), (60, .dat (vint (k60 : Int)))]) (fun i => [(1, .box none 42 [.dat (vint v2.From), .dat (vint v2.To)]), (2, .row 3 1 (List.map C_int i))]) (fun i => token_Uncovered_J9 i = some q61) (fun i => rfl) ?_ ?_
            · skip
              refine awp_block ?_
              refine awp_seq ?_
              refine awp_plain hN rfl ?_
              refine seq_run0 (t_idx tyE22 (fun _ => rfl) rfl rfl h65) ?_
              refine seq_run0 (stp_loadE1 tyS3 rfl (map_at h65) rfl) ?_
              refine seq_run0 (stp_assign (.dat _) rfl) ?_
              refine awp_seq ?_
              refine awp_plain hN rfl ?_
              refine seq_run0 (stp_move (.dat _) rfl) ?_
              refine seq_run0 (stp_fldP tyF42_0 rfl) ?_
              refine seq_run1 (stp_load1 tyS3 rfl rfl) rfl ?_
              refine seq_run0 (stp_gtr rfl rfl) ?_
              refine seq_run0 (stp_move (.dat _) rfl) ?_
              refine seq_aT rfl rfl (fun hc => stp_move (.dat _) rfl) ?_
              refine seq_aT rfl rfl (fun hc => stp_fldP tyF42_1 rfl) ?_
              refine seq_arT rfl rfl (fun hc => stp_load1 tyS3 (cnd (c := (decide (v2.From < x63))) hc) rfl) rfl anti_p ?_
              refine seq_aT rfl rfl (fun hc => stp_lss (cnd (c := (decide (v2.From < x63))) hc) (cnd (c := (decide (v2.From < x63))) hc)) ?_
              refine seq_run0 (stp_pick_and rfl (fun hb => (cnd (c := (decide (v2.From < x63))) hb)) rfl) ?_
              refine awp_cond _ rfl (fun h66 => ?_) (fun h66 => ?_)
              · replace H := ift h66 H
                refine awp_plain hN rfl ?_
                refine seq_run0 (stp_move (.row _ _) rfl) ?_
                refine seq_run0 (stp_move (.dat _) rfl) ?_
                refine seq_run0 (stp_dat (u' := vlst (List.map C_int [x63])) (stp_lit [[_]] tyL22 ⟨rfl, .inl ⟨_, rfl, rfl, rfl⟩, rfl, trivial⟩ rfl rfl) rfl) ?_
                obtain ⟨h67, H⟩ := gif H
                refine seq_run2 (t_app tyL22 (fun _ => rfl) rfl rfl rfl ⟨by simp, by simpa using h67⟩ rfl) rfl ?_
                refine seq_run0 (stp_assign (.row _ _) rfl) ?_
                exact ⟨(l59 ++ [x63]), H, ⟨rfl, rfl, rfl, rfl, rfl, rfl, rfl, rfl, rfl, rfl, trivial⟩, ⟨rfl, rfl, trivial⟩⟩
              · replace H := iff_ h66 H
                refine awp_skip ?_
                exact ⟨l59, H, ⟨rfl, rfl, rfl, rfl, rfl, rfl, rfl, rfl, rfl, rfl, trivial⟩, ⟨rfl, rfl, trivial⟩⟩
            · rintro v68 H
              replace H : token_Uncovered_J9 v68 = some q61 := H
              unfold token_Uncovered_J9 at H
              refine awp_plain hN rfl ?_
              refine seq_run0 (stp_add rfl rfl (by omega)) ?_
              refine seq_run0 (stp_move (.dat _) rfl) ?_
              exact ⟨_, backl H, ⟨rfl, rfl, rfl, rfl, rfl, rfl, rfl, rfl, rfl, rfl, trivial⟩, ⟨rfl, rfl, trivial⟩⟩
theorem k_gateref2_in (n1 : Int) (low2 : Int) (high3 : Int) (r : (Bool)) (H : m_gateref2_in n1 low2 high3 = some r) : Fn Try.prog 35 [vint n1, vint low2, vint high3] (resOf [vbool r]) := by
  refine ⟨by kernel_rfl, pure_of (us := [vbool r]) Try.func35 rfl rfl rfl rfl fun X hN => ?_⟩
  unfold m_gateref2_in at H
  refine awp_seq ?_
  refine awp_plain hN rfl ?_
  refine seq_run0 (stp_assign (.dat _) rfl) ?_
  refine awp_seq ?_
  refine awp_plain hN rfl ?_
  refine seq_run0 (stp_move (.dat _) rfl) ?_
  refine seq_run0 (stp_move (.dat _) rfl) ?_
  refine seq_run0 (stp_leq rfl rfl) ?_
  refine seq_run0 (stp_move (.dat _) rfl) ?_
  refine seq_aT rfl rfl (fun hc => stp_move (.dat _) rfl) ?_
  refine seq_aT rfl rfl (fun hc => stp_move (.dat _) rfl) ?_
  refine seq_aT rfl rfl (fun hc => stp_leq (cnd (c := (decide (low2 ≤ n1))) hc) (cnd (c := (decide (low2 ≤ n1))) hc)) ?_
  refine seq_run0 (stp_pick_and rfl (fun hb => (cnd (c := (decide (low2 ≤ n1))) hb)) rfl) ?_
  refine seq_run0 (stp_assign (.dat _) rfl) ?_
  refine awp_ret ?_
  cases H
  exact ⟨trivial, .inl rfl, trivial⟩
theorem k_strings_IndexByte (l : Bs) (c r : Int) (H : m_strings_IndexByte l c = some r) : Fn Try.prog 70 [vstr l, vval (.int .u8 c)] (resOf [vint r]) := by
  cases H
  refine fn_of_calls (by kernel_rfl) fun M w vs h => ?_
  have h1 := Ts_vals (us := [.string ⟨l.toArray⟩, .int .u8 c]) h
  subst h1
  refine (Try.strings_IndexByte ⟨l.toArray⟩ c w).mono ?_
  rintro e w' ⟨rfl, rfl⟩
  exact ⟨_, rfl, rfl, Kp.refl _ _⟩
theorem k_gateref2_only (s1 : Bs) (some2 : Bs) (r : (Bool)) (H : m_gateref2_only s1 some2 = some r) : Fn Try.prog 58 [vstr s1, vstr some2] (resOf [vbool r]) := by
  refine ⟨by kernel_rfl, pure_of (us := [vbool r]) Try.func58 rfl rfl rfl rfl fun X hN => ?_⟩
  unfold m_gateref2_only at H
  refine awp_seq ?_
  refine awp_plain hN rfl ?_
  refine seq_run0 (stp_assign (.dat _) rfl) ?_
  refine awp_seq ?_
  refine awp_seq ?_
  refine awp_plain hN rfl ?_
  refine seq_run0 (stp_move (.dat _) rfl) ?_
  refine seq_run0 (stp_len_str tyU9 rfl) ?_
  refine seq_run0 (stp_move (.dat _) rfl) ?_
  refine awp_block ?_
  obtain ⟨h5, H⟩ := gif H
  refine awp_forL (fun (k3 : Nat) (s : Unit) => [(0, .dat (vstr s1)), (1, .dat (vstr some2)), (7, .dat (vint (s1.length : Int))), (8, .dat (vint (k3 : Int)))]) (fun (k3 : Nat) (s : Unit) => []) () H ⟨rfl, rfl, rfl, rfl, trivial⟩ trivial (fun _ _ => rfl) ?_ ?_
  · rintro ⟨⟩ H
    replace H : gateref2_only_E1 = some r := H
    unfold gateref2_only_E1 at H
    refine awp_seq ?_
    refine awp_plain hN rfl ?_
    refine seq_run0 (stp_lss rfl rfl) ?_
    refine awp_seq ?_
    refine awp_cond _ rfl (fun h => (lt_t h).elim) (fun h => ?_)
    refine awp_exit ?_
    refine awp_seq ?_
    refine awp_plain hN rfl ?_
    refine seq_run0 (stp_assign (.dat _) rfl) ?_
    refine awp_ret ?_
    cases H
    exact ⟨trivial, .inl rfl, trivial⟩
  · rintro k3 x6 ⟨⟩ q4 h7 h8 H hq4
    replace H : gateref2_only_L1 some2 k3 x6 = some q4 := H
    unfold gateref2_only_L1 at H
    refine awp_seq ?_
    refine awp_plain hN rfl ?_
    refine seq_run0 (stp_lss rfl rfl) ?_
    refine awp_seq ?_
    refine awp_cond _ rfl (fun h => ?_) (fun h => (lt_f h7 h).elim)
    refine awp_skip ?_
    refine awp_seq ?_
    refine awp_block ?_
    refine awp_seq ?_
    refine awp_plain hN rfl ?_
    refine seq_run0 (stp_move (.dat _) rfl) ?_
    refine seq_run0 (stp_assign (.dat _) rfl) ?_
    refine awp_seq ?_
    refine awp_plain hN rfl ?_
    refine seq_run0 (stp_move (.dat _) rfl) ?_
    refine seq_run0 (stp_move (.dat _) rfl) ?_
    refine seq_run0 (stp_move (.dat _) rfl) ?_
    refine seq_run0 (t_byte tyU9 rfl rfl h8) ?_
    obtain ⟨r9, h10, H⟩ := bnd H
    refine seq_run0 (stp_call (k_strings_IndexByte some2 (x6.toNat : Int) r9 h10) ⟨.inl rfl, .inl rfl, trivial⟩) ?_
    refine seq_run0 (stp_lss rfl rfl) ?_
    refine awp_cond _ rfl (fun h11 => ?_) (fun h11 => ?_)
    · replace H := ift h11 H
      refine awp_seq ?_
      refine awp_plain hN rfl ?_
      refine seq_run0 (stp_assign (.dat _) rfl) ?_
      refine awp_ret ?_
      replace H := retl H hq4
      cases H
      exact ⟨trivial, .inl rfl, trivial⟩
    · replace H := iff_ h11 H
      refine awp_skip ?_
      refine awp_plain hN rfl ?_
      refine seq_run0 (stp_add rfl rfl (by omega)) ?_
      refine seq_run0 (stp_move (.dat _) rfl) ?_
      exact ⟨_, backl H, ⟨rfl, rfl, rfl, rfl, trivial⟩, trivial⟩
theorem k_gateref2_Key (s1 : Bs) (r : (Bool)) (H : m_gateref2_Key s1 = some r) : Fn Try.prog 31 [vstr s1] (resOf [vbool r]) := by
  refine ⟨by kernel_rfl, pure_of (us := [vbool r]) Try.func31 rfl rfl rfl rfl fun X hN => ?_⟩
  unfold m_gateref2_Key at H
  refine awp_seq ?_
  refine awp_plain hN rfl ?_
  refine seq_run0 (stp_assign (.dat _) rfl) ?_
  refine awp_joinE (ι := Bool) (fun i => [(2, .dat (vbool i))]) (fun i => []) (fun i => gateref2_Key_J1 i = some r) (fun i => rfl) ?_ ?_
  · skip
    refine awp_plain hN rfl ?_
    refine seq_run0 (stp_move (.dat _) rfl) ?_
    refine seq_run0 (stp_len_str tyU9 rfl) ?_
    obtain ⟨r2, h3, H⟩ := bnd H
    refine seq_run0 (stp_call (k_gateref2_in (s1.length : Int) 1 40 r2 h3) ⟨.inl rfl, .inl rfl, .inl rfl, trivial⟩) ?_
    refine seq_run0 (stp_move (.dat _) rfl) ?_
    refine seq_split (j := 3) rfl rfl (fun h4 => ?_) (fun h4 => ?_) rfl
    · have h5 := un1 h4
      replace H := ift h5 H
      refine seq_g0 rfl rfl h4 (stp_move (.dat _) rfl) ?_
      obtain ⟨l6, h7, H⟩ := bnd H
      refine seq_g0 rfl rfl h4 (t_subS tyU9 rfl rfl rfl h7) ?_
      obtain ⟨r8, h9, H⟩ := bnd H
      refine seq_g0 rfl rfl h4 (stp_call (k_gateref2_only l6 [97, 98, 99, 100, 101, 102, 103, 104, 105, 106, 107, 108, 109, 110, 111, 112, 113, 114, 115, 116, 117, 118, 119, 120, 121, 122] r8 h9) ⟨.inl rfl, .inl rfl, trivial⟩) ?_
      refine seq_run0 (stp_pick_t rfl (bTT h5) rfl) ?_
      refine seq_run0 (stp_move (.dat _) rfl) ?_
      refine seq_split (j := 8) rfl rfl (fun h10 => ?_) (fun h10 => ?_) rfl
      · have h11 := un1 h10
        replace H := ift h11 H
        refine seq_g0 rfl rfl h10 (stp_move (.dat _) rfl) ?_
        obtain ⟨r12, h13, H⟩ := bnd H
        refine seq_g0 rfl rfl h10 (stp_call (k_gateref2_only s1 [97, 98, 99, 100, 101, 102, 103, 104, 105, 106, 107, 108, 109, 110, 111, 112, 113, 114, 115, 116, 117, 118, 119, 120, 121, 122, 48, 49, 50, 51, 52, 53, 54, 55, 56, 57, 45, 95] r12 h13) ⟨.inl rfl, .inl rfl, trivial⟩) ?_
        refine seq_run0 (stp_pick_t rfl (bTT h11) rfl) ?_
        refine seq_run0 (stp_assign (.dat _) rfl) ?_
        exact ⟨r12, H, ⟨rfl, trivial⟩, trivial⟩
      · have h14 := un2 h10
        replace H := iff_ h14 H
        refine seq_skip rfl rfl h10 ?_
        refine seq_skip rfl rfl h10 ?_
        refine seq_run0 (stp_pick_f rfl (bFF h14) rfl) ?_
        refine seq_run0 (stp_assign (.dat _) rfl) ?_
        exact ⟨false, H, ⟨rfl, trivial⟩, trivial⟩
    · have h15 := un2 h4
      replace H := iff_ h15 H
      refine seq_skip rfl rfl h4 ?_
      refine seq_skip rfl rfl h4 ?_
      refine seq_skip rfl rfl h4 ?_
      refine seq_run0 (stp_pick_f rfl (bFF h15) rfl) ?_
      refine seq_run0 (stp_move (.dat _) rfl) ?_
      refine seq_skip rfl rfl rfl ?_
      refine seq_skip rfl rfl rfl ?_
      refine seq_run0 (stp_pick_f rfl rfl rfl) ?_
      refine seq_run0 (stp_assign (.dat _) rfl) ?_
      exact ⟨false, H, ⟨rfl, trivial⟩, trivial⟩
  · rintro v16 H
    replace H : gateref2_Key_J1 v16 = some r := H
    unfold gateref2_Key_J1 at H
    refine awp_ret ?_
    cases H
    exact ⟨trivial, .inl rfl, trivial⟩
theorem k_gateref2_SignersFault_1 (o1 : S_api_Signer) (c2 : S_api_Signer) (r : (Bool)) (H : m_gateref2_SignersFault_1 o1 c2 = some r) : Fn Try.prog 33 [vagg (C_api_Signer o1), vcell [[vstr c2.Id, vstr c2.Secret, vint c2.From, vint c2.To, vint c2.Until]] 0 0] (resOf [vbool r]) := by
  refine ⟨by kernel_rfl, pure_of (us := [vbool r]) Try.func33 rfl rfl rfl rfl fun X hN => ?_⟩
  unfold m_gateref2_SignersFault_1 at H
  refine awp_seq ?_
  refine awp_plain hN rfl ?_
  refine seq_run2 (stp_boxA 1 rfl) rfl ?_
  refine seq_run0 (stp_assign (.dat _) rfl) ?_
  refine awp_seq ?_
  refine awp_plain hN rfl ?_
  refine seq_run0 (stp_fldP tyF38_0 rfl) ?_
  refine seq_run1 (stp_load1 tyS9 rfl rfl) rfl ?_
  refine seq_run0 (stp_fldE tyF38_0 rfl) ?_
  refine seq_run0 (stp_loadE1 tyS9 rfl rfl rfl) ?_
  refine seq_run0 (stp_seql rfl rfl) ?_
  refine seq_run0 (stp_assign (.dat _) rfl) ?_
  refine awp_ret ?_
  cases H
  exact ⟨trivial, .inl rfl, trivial⟩
theorem k_gateref2_visible (s1 : Bs) (low2 : Int) (r : (Bool)) (H : m_gateref2_visible s1 low2 = some r) : Fn Try.prog 60 [vstr s1, vval (.int .u8 low2)] (resOf [vbool r]) := by
  refine ⟨by kernel_rfl, pure_of (us := [vbool r]) Try.func60 rfl rfl rfl rfl fun X hN => ?_⟩
  unfold m_gateref2_visible at H
  refine awp_seq ?_
  refine awp_plain hN rfl ?_
  refine seq_run0 (stp_assign (.dat _) rfl) ?_
  refine awp_seq ?_
  refine awp_seq ?_
  refine awp_plain hN rfl ?_
  refine seq_run0 (stp_move (.dat _) rfl) ?_
  refine seq_run0 (stp_len_str tyU9 rfl) ?_
  refine seq_run0 (stp_move (.dat _) rfl) ?_
  refine awp_block ?_
  obtain ⟨h5, H⟩ := gif H
  refine awp_forL (fun (k3 : Nat) (s : Unit) => [(0, .dat (vstr s1)), (1, .dat (vval (.int .u8 low2))), (7, .dat (vint (s1.length : Int))), (8, .dat (vint (k3 : Int)))]) (fun (k3 : Nat) (s : Unit) => []) () H ⟨rfl, rfl, rfl, rfl, trivial⟩ trivial (fun _ _ => rfl) ?_ ?_
  · rintro ⟨⟩ H
    replace H : gateref2_visible_E1 = some r := H
    unfold gateref2_visible_E1 at H
    refine awp_seq ?_
    refine awp_plain hN rfl ?_
    refine seq_run0 (stp_lss rfl rfl) ?_
    refine awp_seq ?_
    refine awp_cond _ rfl (fun h => (lt_t h).elim) (fun h => ?_)
    refine awp_exit ?_
    refine awp_seq ?_
    refine awp_plain hN rfl ?_
    refine seq_run0 (stp_assign (.dat _) rfl) ?_
    refine awp_ret ?_
    cases H
    exact ⟨trivial, .inl rfl, trivial⟩
  · rintro k3 x6 ⟨⟩ q4 h7 h8 H hq4
    replace H : gateref2_visible_L1 low2 k3 x6 = some q4 := H
    unfold gateref2_visible_L1 at H
    refine awp_seq ?_
    refine awp_plain hN rfl ?_
    refine seq_run0 (stp_lss rfl rfl) ?_
    refine awp_seq ?_
    refine awp_cond _ rfl (fun h => ?_) (fun h => (lt_f h7 h).elim)
    refine awp_skip ?_
    refine awp_seq ?_
    refine awp_block ?_
    refine awp_seq ?_
    refine awp_plain hN rfl ?_
    refine seq_run0 (stp_move (.dat _) rfl) ?_
    refine seq_run0 (stp_assign (.dat _) rfl) ?_
    refine awp_joinE (ι := Bool) (fun i => [(0, .dat (vstr s1)), (1, .dat (vval (.int .u8 low2))), (7, .dat (vint (s1.length : Int))), (8, .dat (vint (k3 : Int))), (21, .dat (vbool i))]) (fun i => []) (fun i => gateref2_visible_J2 i = some q4) (fun i => rfl) ?_ ?_
    · skip
      refine awp_plain hN rfl ?_
      refine seq_run0 (stp_move (.dat _) rfl) ?_
      refine seq_run0 (stp_move (.dat _) rfl) ?_
      refine seq_run0 (t_byte tyU9 rfl rfl h8) ?_
      refine seq_run0 (stp_move (.dat _) rfl) ?_
      refine seq_run0 (stp_lss rfl rfl) ?_
      refine seq_run0 (stp_move (.dat _) rfl) ?_
      refine seq_split (j := 5) rfl rfl (fun h9 => ?_) (fun h9 => ?_) rfl
      · have h10 := un3 h9
        replace H := iff_ h10 H
        refine seq_g0 rfl rfl h9 (stp_move (.dat _) rfl) ?_
        refine seq_g0 rfl rfl h9 (stp_move (.dat _) rfl) ?_
        refine seq_g0 rfl rfl h9 (t_byte tyU9 rfl rfl h8) ?_
        refine seq_g0 rfl rfl h9 (stp_gtr rfl rfl) ?_
        refine seq_run0 (stp_pick_f rfl (bFF h10) rfl) ?_
        exact ⟨decide (126 < (x6.toNat : Int)), H, ⟨rfl, rfl, rfl, rfl, rfl, trivial⟩, trivial⟩
      · have h11 := un4 h9
        replace H := ift h11 H
        refine seq_skip rfl rfl h9 ?_
        refine seq_skip rfl rfl h9 ?_
        refine seq_skip rfl rfl h9 ?_
        refine seq_skip rfl rfl h9 ?_
        refine seq_run0 (stp_pick_t rfl (bTT h11) rfl) ?_
        exact ⟨true, H, ⟨rfl, rfl, rfl, rfl, rfl, trivial⟩, trivial⟩
    · rintro v12 H
      replace H : gateref2_visible_J2 v12 = some q4 := H
      unfold gateref2_visible_J2 at H
      refine awp_cond _ rfl (fun h13 => ?_) (fun h13 => ?_)
      · replace H := ift h13 H
        refine awp_seq ?_
        refine awp_plain hN rfl ?_
        refine seq_run0 (stp_assign (.dat _) rfl) ?_
        refine awp_ret ?_
        replace H := retl H hq4
        cases H
        exact ⟨trivial, .inl rfl, trivial⟩
      · replace H := iff_ h13 H
        refine awp_skip ?_
        refine awp_plain hN rfl ?_
        refine seq_run0 (stp_add rfl rfl (by omega)) ?_
        refine seq_run0 (stp_move (.dat _) rfl) ?_
        exact ⟨_, backl H, ⟨rfl, rfl, rfl, rfl, trivial⟩, trivial⟩
theorem k_gateref2_SecretFault (s1 : Bs) (r : (Int)) (H : m_gateref2_SecretFault s1 = some r) : Fn Try.prog 34 [vstr s1] (resOf [vint r]) := by
  refine ⟨by kernel_rfl, pure_of (us := [vint r]) Try.func34 rfl rfl rfl rfl fun X hN => ?_⟩
  unfold m_gateref2_SecretFault at H
  refine awp_seq ?_
  refine awp_plain hN rfl ?_
  refine seq_run0 (stp_assign (.dat _) rfl) ?_
  refine awp_seq ?_
  refine awp_joinE (ι := Bool) (fun i => [(0, .dat (vstr s1)), (9, .dat (vbool i))]) (fun i => []) (fun i => gateref2_SecretFault_J1 s1 i = some r) (fun i => rfl) ?_ ?_
  · skip
    refine awp_plain hN rfl ?_
    refine seq_run0 (stp_move (.dat _) rfl) ?_
    refine seq_run0 (stp_seql rfl rfl) ?_
    refine seq_run0 (stp_move (.dat _) rfl) ?_
    refine seq_split (j := 2) rfl rfl (fun h2 => ?_) (fun h2 => ?_) rfl
    · have h3 := un3 h2
      replace H := iff_ h3 H
      refine seq_g0 rfl rfl h2 (stp_move (.dat _) rfl) ?_
      obtain ⟨r4, h5, H⟩ := bnd H
      refine seq_g0 rfl rfl h2 (stp_call (k_gateref2_visible s1 33 r4 h5) ⟨.inl rfl, .inl rfl, trivial⟩) ?_
      refine seq_g0 rfl rfl h2 (stp_not rfl) ?_
      refine seq_run0 (stp_pick_f rfl (bFF h3) rfl) ?_
      exact ⟨!r4, H, ⟨rfl, rfl, trivial⟩, trivial⟩
    · have h6 := un4 h2
      replace H := ift h6 H
      refine seq_skip rfl rfl h2 ?_
      refine seq_skip rfl rfl h2 ?_
      refine seq_skip rfl rfl h2 ?_
      refine seq_run0 (stp_pick_t rfl (bTT h6) rfl) ?_
      exact ⟨true, H, ⟨rfl, rfl, trivial⟩, trivial⟩
  · rintro v7 H
    replace H : gateref2_SecretFault_J1 s1 v7 = some r := H
    unfold gateref2_SecretFault_J1 at H
    refine awp_cond _ rfl (fun h8 => ?_) (fun h8 => ?_)
    · replace H := ift h8 H
      refine awp_seq ?_
      refine awp_plain hN rfl ?_
      refine seq_run0 (stp_assign (.dat _) rfl) ?_
      refine awp_ret ?_
      cases H
      exact ⟨trivial, .inl rfl, trivial⟩
    · replace H := iff_ h8 H
      refine awp_skip ?_
      refine awp_seq ?_
      refine awp_seq ?_
      refine awp_plain hN rfl ?_
      refine seq_run0 (stp_move (.dat _) rfl) ?_
      refine seq_run0 (stp_len_str tyU9 rfl) ?_
      refine seq_run0 (stp_gtr rfl rfl) ?_
      refine awp_cond _ rfl (fun h9 => ?_) (fun h9 => ?_)
      · replace H := ift h9 H
        refine awp_seq ?_
        refine awp_plain hN rfl ?_
        refine seq_run0 (stp_assign (.dat _) rfl) ?_
        refine awp_ret ?_
        cases H
        exact ⟨trivial, .inl rfl, trivial⟩
      · replace H := iff_ h9 H
        refine awp_skip ?_
        refine awp_seq ?_
        refine awp_plain hN rfl ?_
        refine seq_run0 (stp_assign (.dat _) rfl) ?_
        refine awp_ret ?_
        cases H
        exact ⟨trivial, .inl rfl, trivial⟩
theorem k_gateref2_SignersFault (v1 : (List S_api_Signer)) (r : (Int)) (H : m_gateref2_SignersFault v1 = some r) : Fn Try.prog 11 [vlst (List.map C_api_Signer v1)] (resOf [vint r]) := by
  refine ⟨by kernel_rfl, pure_of (us := [vint r]) Try.func11 rfl rfl rfl rfl fun X hN => ?_⟩
  unfold m_gateref2_SignersFault at H
  refine awp_seq ?_
  refine awp_plain hN rfl ?_
  refine seq_run0 (stp_assign (.dat _) rfl) ?_
  refine awp_seq ?_
  refine awp_seq ?_
  refine awp_plain hN rfl ?_
  refine seq_run0 (stp_move (.dat _) rfl) ?_
  refine seq_run0 (t_len tyU26 rfl) ?_
  refine seq_run0 (stp_gtr rfl rfl) ?_
  refine awp_cond _ rfl (fun h2 => ?_) (fun h2 => ?_)
  · replace H := ift h2 H
    refine awp_seq ?_
    refine awp_plain hN rfl ?_
    refine seq_run0 (stp_assign (.dat _) rfl) ?_
    refine awp_ret ?_
    cases H
    exact ⟨trivial, .inl rfl, trivial⟩
  · replace H := iff_ h2 H
    refine awp_skip ?_
    refine awp_seq ?_
    refine awp_seq ?_
    refine awp_plain hN rfl ?_
    refine seq_run0 (stp_move (.dat _) rfl) ?_
    refine seq_run0 (t_len tyU26 rfl) ?_
    refine seq_run0 (stp_move (.dat _) rfl) ?_
    refine awp_block ?_
    obtain ⟨h5, H⟩ := gif H
    refine awp_forL (fun (k3 : Nat) (s : Unit) => [(0, .dat (vlst (List.map C_api_Signer v1))), (9, .dat (vlst (List.map C_api_Signer v1))), (10, .dat (vint (v1.length : Int))), (11, .dat (vint (k3 : Int)))]) (fun (k3 : Nat) (s : Unit) => []) () H ⟨rfl, rfl, rfl, rfl, trivial⟩ trivial (fun _ _ => rfl) ?_ ?_
    · rintro ⟨⟩ H
      replace H : gateref2_SignersFault_E1 = some r := H
      unfold gateref2_SignersFault_E1 at H
      refine awp_seq ?_
      refine awp_plain hN rfl ?_
      refine seq_run0 (stp_lss rfl rfl) ?_
      refine awp_seq ?_
      refine awp_cond _ rfl (fun h => (lt_t h).elim) (fun h => ?_)
      refine awp_exit ?_
      refine awp_seq ?_
      refine awp_plain hN rfl ?_
      refine seq_run0 (stp_assign (.dat _) rfl) ?_
      refine awp_ret ?_
      cases H
      exact ⟨trivial, .inl rfl, trivial⟩
    · rintro k3 x6 ⟨⟩ q4 h7 h8 H hq4
      replace H : gateref2_SignersFault_L1 v1 k3 x6 = some q4 := H
      unfold gateref2_SignersFault_L1 at H
      refine awp_seq ?_
      refine awp_plain hN rfl ?_
      refine seq_run0 (stp_lss rfl rfl) ?_
      refine awp_seq ?_
      refine awp_cond _ rfl (fun h => ?_) (fun h => (lt_f h7 h).elim)
      refine awp_skip ?_
      refine awp_seq ?_
      refine awp_block ?_
      refine awp_seq ?_
      refine awp_plain hN rfl ?_
      refine seq_run0 (stp_move (.dat _) rfl) ?_
      refine seq_run0 (t_idx tyE26 (fun _ => rfl) rfl rfl h8) ?_
      refine seq_run0 (stp_loadEA tyS38 rfl (map_at h8) rfl) ?_
      refine seq_run2 (stp_alloc 1 tyZ38 rfl) rfl ?_
      refine seq_run0 (stp_assign (.dat _) rfl) ?_
      refine seq_run2 (stp_storeW tyS38 rfl rfl rfl rfl) rfl ?_
      refine awp_seq ?_
      refine awp_block ?_
      refine awp_seq ?_
      refine awp_plain hN rfl ?_
      refine seq_run0 (stp_fldP tyF38_0 rfl) ?_
      refine seq_run1 (stp_load1 tyS9 rfl rfl) rfl ?_
      obtain ⟨r9, h10, H⟩ := bnd H
      refine seq_run0 (stp_call (k_gateref2_Key x6.Id r9 h10) ⟨.inl rfl, trivial⟩) ?_
      refine seq_run0 (stp_not rfl) ?_
      refine seq_run0 (stp_assign (.dat _) rfl) ?_
      refine awp_cond _ rfl (fun h11 => ?_) (fun h11 => ?_)
      · replace H := ift h11 H
        refine awp_seq ?_
        refine awp_plain hN rfl ?_
        refine seq_run0 (stp_assign (.dat _) rfl) ?_
        refine awp_ret ?_
        replace H := retl H hq4
        cases H
        exact ⟨trivial, .inl rfl, trivial⟩
      · replace H := iff_ h11 H
        refine awp_seq ?_
        refine awp_frzB 1 [vstr x6.Id, vstr x6.Secret, vint x6.From, vint x6.To, vint x6.Until] rfl rfl ?_
        refine awp_plain hN rfl ?_
        refine seq_run0 (stp_move (.dat _) rfl) ?_
        refine seq_run0 (stp_move (.dat _) rfl) ?_
        obtain ⟨l12, h13, H⟩ := bnd H
        refine seq_run0 (t_subL tyE26 (fun _ => rfl) rfl rfl rfl h13) ?_
        refine seq_run0 (stp_mkfn (us := [_]) ⟨rfl, trivial⟩) ?_
        obtain ⟨r14, h15, H⟩ := bnd H
        refine seq_run0 (stp_call (k_slices_ContainsFunc_L_api_Signer_api_Signer_ l12 (fun (a0 : S_api_Signer) => m_gateref2_SignersFault_1 a0 x6) 33 [vcell [[vstr x6.Id, vstr x6.Secret, vint x6.From, vint x6.To, vint x6.Until]] 0 0] (fun a0 r h => k_gateref2_SignersFault_1 a0 x6 r h) r14 h15) ⟨.inl rfl, .inl rfl, trivial⟩) ?_
        refine seq_run0 (stp_assign (.dat _) rfl) ?_
        refine awp_cond _ rfl (fun h16 => ?_) (fun h16 => ?_)
        · replace H := ift h16 H
          refine awp_seq ?_
          refine awp_plain hN rfl ?_
          refine seq_run0 (stp_assign (.dat _) rfl) ?_
          refine awp_ret ?_
          replace H := retl H hq4
          cases H
          exact ⟨trivial, .inl rfl, trivial⟩
        · replace H := iff_ h16 H
          refine awp_skip ?_
          refine awp_seq ?_
          refine awp_seq ?_
          refine awp_plain hN rfl ?_
          refine seq_run0 (stp_fldE tyF38_1 rfl) ?_
          refine seq_run0 (stp_loadE1 tyS9 rfl rfl rfl) ?_
          obtain ⟨r17, h18, H⟩ := bnd H
          refine seq_run0 (stp_call (k_gateref2_SecretFault x6.Secret r17 h18) ⟨.inl rfl, trivial⟩) ?_
          refine seq_run0 (stp_assign (.dat _) rfl) ?_
          refine awp_seq ?_
          refine awp_plain hN rfl ?_
          refine seq_run0 (stp_move (.dat _) rfl) ?_
          refine seq_run0 (stp_neq rfl rfl) ?_
          refine awp_cond _ rfl (fun h19 => ?_) (fun h19 => ?_)
          · replace H := ift h19 H
            refine awp_seq ?_
            refine awp_plain hN rfl ?_
            refine seq_run0 (stp_move (.dat _) rfl) ?_
            refine seq_run0 (stp_assign (.dat _) rfl) ?_
            refine awp_ret ?_
            replace H := retl H hq4
            cases H
            exact ⟨trivial, .inl rfl, trivial⟩
          · replace H := iff_ h19 H
            refine awp_skip ?_
            refine awp_block ?_
            refine awp_seq ?_
            refine awp_plain hN rfl ?_
            refine seq_run0 (stp_fldE tyF38_2 rfl) ?_
            refine seq_run0 (stp_loadE1 tyS3 rfl rfl rfl) ?_
            refine seq_run0 (stp_fldE tyF38_3 rfl) ?_
            refine seq_run0 (stp_loadE1 tyS3 rfl rfl rfl) ?_
            obtain ⟨r20, h21, H⟩ := bnd H
            refine seq_run0 (stp_call (k_gateref2_in x6.From 0 x6.To r20 h21) ⟨.inl rfl, .inl rfl, .inl rfl, trivial⟩) ?_
            refine seq_run0 (stp_not rfl) ?_
            refine seq_run0 (stp_move (.dat _) rfl) ?_
            refine seq_aF rfl rfl (fun hc => stp_fldE tyF38_3 rfl) ?_
            refine seq_aF rfl rfl (fun hc => stp_loadE1 tyS3 (cnd (c := (!(!r20))) hc) rfl rfl) ?_
            refine seq_aF rfl rfl (fun hc => stp_fldE tyF38_4 rfl) ?_
            refine seq_aF rfl rfl (fun hc => stp_loadE1 tyS3 (cnd (c := (!(!r20))) hc) rfl rfl) ?_
            refine seq_aF rfl rfl (fun hc => stp_gtr (cnd (c := (!(!r20))) hc) (cnd (c := (!(!r20))) hc)) ?_
            refine seq_run0 (stp_pick_or rfl rfl (fun hb => (cnd (c := (!(!r20))) (notI hb)))) ?_
            refine seq_run0 (stp_move (.dat _) rfl) ?_
            refine seq_aF rfl rfl (fun hc => stp_fldE tyF38_4 rfl) ?_
            refine seq_aF rfl rfl (fun hc => stp_loadE1 tyS3 (cnd (c := (!((!r20) || (decide (x6.Until < x6.To))))) hc) rfl rfl) ?_
            refine seq_aF rfl rfl (fun hc => stp_gtr (cnd (c := (!((!r20) || (decide (x6.Until < x6.To))))) hc) rfl) ?_
            refine seq_run0 (stp_pick_or rfl rfl (fun hb => (cnd (c := (!((!r20) || (decide (x6.Until < x6.To))))) (notI hb)))) ?_
            refine seq_run0 (stp_assign (.dat _) rfl) ?_
            refine awp_cond _ rfl (fun h22 => ?_) (fun h22 => ?_)
            · replace H := ift h22 H
              refine awp_seq ?_
              refine awp_plain hN rfl ?_
              refine seq_run0 (stp_assign (.dat _) rfl) ?_
              refine awp_ret ?_
              replace H := retl H hq4
              cases H
              exact ⟨trivial, .inl rfl, trivial⟩
            · replace H := iff_ h22 H
              refine awp_joinE (ι := Bool) (fun i => [(0, .dat (vlst (List.map C_api_Signer v1))), (9, .dat (vlst (List.map C_api_Signer v1))), (10, .dat (vint (v1.length : Int))), (11, .dat (vint (k3 : Int))), (52, .dat (vbool i))]) (fun i => []) (fun i => gateref2_SignersFault_J2 i = some q4) (fun i => rfl) ?_ ?_
              · skip
                refine awp_draw mixed hN rfl rfl ?_
                refine seq_run0 (stp_move (.dat _) rfl) ?_
                refine seq_run0 (stp_gtr rfl rfl) ?_
                refine seq_run0 (stp_move (.dat _) rfl) ?_
                refine seq_split (j := 2) rfl rfl (fun h23 => ?_) (fun h23 => ?_) rfl
                · have h24 := un1 h23
                  replace H := ift h24 H
                  refine seq_g0 rfl rfl h23 (stp_fldE tyF38_2 rfl) ?_
                  refine seq_g0 rfl rfl h23 (stp_loadE1 tyS3 rfl rfl rfl) ?_
                  refine seq_g0 rfl rfl h23 (stp_move (.dat _) rfl) ?_
                  refine seq_g0 rfl rfl h23 (stp_move (.dat _) rfl) ?_
                  refine seq_g0 rfl rfl h23 (stp_sub rfl rfl (by omega)) ?_
                  obtain ⟨x25, h26, H⟩ := bnd H
                  refine seq_g0 rfl rfl h23 (t_idxI tyE26 (fun _ => rfl) rfl rfl h26) ?_
                  refine seq_g0 rfl rfl h23 (stp_fldE tyF38_2 rfl) ?_
                  refine seq_g0 rfl rfl h23 (stp_loadE1 tyS3 rfl (map_at (at_some h26).2) rfl) ?_
                  refine seq_g0 rfl rfl h23 (stp_lss rfl rfl) ?_
                  refine seq_run0 (stp_pick_t rfl (bTT h24) rfl) ?_
                  refine seq_run0 (stp_assign (.dat _) rfl) ?_
                  refine ⟨rfl, ?_⟩
                  exact ⟨decide (x6.From < x25.From), H, ⟨rfl, rfl, rfl, rfl, rfl, trivial⟩, trivial⟩
                · have h27 := un2 h23
                  replace H := iff_ h27 H
                  refine seq_skip rfl rfl h23 ?_
                  refine seq_skip rfl rfl h23 ?_
                  refine seq_skip rfl rfl h23 ?_
                  refine seq_skip rfl rfl h23 ?_
                  refine seq_skip rfl rfl h23 ?_
                  refine seq_skip rfl rfl h23 ?_
                  refine seq_skip rfl rfl h23 ?_
                  refine seq_skip rfl rfl h23 ?_
                  refine seq_skip rfl rfl h23 ?_
                  refine seq_run0 (stp_pick_f rfl (bFF h27) rfl) ?_
                  refine seq_run0 (stp_assign (.dat _) rfl) ?_
                  refine ⟨rfl, ?_⟩
                  exact ⟨false, H, ⟨rfl, rfl, rfl, rfl, rfl, trivial⟩, trivial⟩
              · rintro v28 H
                replace H : gateref2_SignersFault_J2 v28 = some q4 := H
                unfold gateref2_SignersFault_J2 at H
                refine awp_cond _ rfl (fun h29 => ?_) (fun h29 => ?_)
                · replace H := ift h29 H
                  refine awp_seq ?_
                  refine awp_plain hN rfl ?_
                  refine seq_run0 (stp_assign (.dat _) rfl) ?_
                  refine awp_ret ?_
                  replace H := retl H hq4
                  cases H
                  exact ⟨trivial, .inl rfl, trivial⟩
                · replace H := iff_ h29 H
                  refine awp_skip ?_
                  refine awp_plain hN rfl ?_
                  refine seq_run0 (stp_add rfl rfl (by omega)) ?_
                  refine seq_run0 (stp_move (.dat _) rfl) ?_
                  exact ⟨_, backl H, ⟨rfl, rfl, rfl, rfl, trivial⟩, trivial⟩
theorem k_gateref2_Moment (v1 : Int) (r : (Bool)) (H : m_gateref2_Moment v1 = some r) : Fn Try.prog 37 [vint v1] (resOf [vbool r]) := by
  refine ⟨by kernel_rfl, pure_of (us := [vbool r]) Try.func37 rfl rfl rfl rfl fun X hN => ?_⟩
  unfold m_gateref2_Moment at H
  refine awp_seq ?_
  refine awp_plain hN rfl ?_
  refine seq_run0 (stp_assign (.dat _) rfl) ?_
  refine awp_seq ?_
  refine awp_plain hN rfl ?_
  refine seq_run0 (stp_move (.dat _) rfl) ?_
  obtain ⟨r2, h3, H⟩ := bnd H
  refine seq_run0 (stp_call (k_gateref2_in v1 0 345686399999 r2 h3) ⟨.inl rfl, .inl rfl, .inl rfl, trivial⟩) ?_
  refine seq_run0 (stp_assign (.dat _) rfl) ?_
  refine awp_ret ?_
  cases H
  exact ⟨trivial, .inl rfl, trivial⟩
theorem k_gatelaw2_when (is1 : Bool) (e2 : Int) (r : (Int)) (H : m_gatelaw2_when is1 e2 = some r) : Fn Try.prog 23 [vbool is1, vint e2] (resOf [vint r]) := by
  refine ⟨by kernel_rfl, pure_of (us := [vint r]) Try.func23 rfl rfl rfl rfl fun X hN => ?_⟩
  unfold m_gatelaw2_when at H
  refine awp_seq ?_
  refine awp_plain hN rfl ?_
  refine seq_run0 (stp_assign (.dat _) rfl) ?_
  refine awp_seq ?_
  refine awp_seq ?_
  refine awp_plain hN rfl ?_
  refine seq_run0 (stp_move (.dat _) rfl) ?_
  refine awp_cond _ rfl (fun h3 => ?_) (fun h3 => ?_)
  · replace H := ift h3 H
    refine awp_seq ?_
    refine awp_plain hN rfl ?_
    refine seq_run0 (stp_move (.dat _) rfl) ?_
    refine seq_run0 (stp_assign (.dat _) rfl) ?_
    refine awp_ret ?_
    cases H
    exact ⟨trivial, .inl rfl, trivial⟩
  · replace H := iff_ h3 H
    refine awp_skip ?_
    refine awp_seq ?_
    refine awp_plain hN rfl ?_
    refine seq_run0 (stp_assign (.dat _) rfl) ?_
    refine awp_ret ?_
    cases H
    exact ⟨trivial, .inl rfl, trivial⟩
theorem k_gatelaw2_momentFault (v1 : Int) (r : (Int)) (H : m_gatelaw2_momentFault v1 = some r) : Fn Try.prog 21 [vint v1] (resOf [vint r]) := by
  refine ⟨by kernel_rfl, pure_of (us := [vint r]) Try.func21 rfl rfl rfl rfl fun X hN => ?_⟩
  unfold m_gatelaw2_momentFault at H
  refine awp_seq ?_
  refine awp_plain hN rfl ?_
  refine seq_run0 (stp_assign (.dat _) rfl) ?_
  refine awp_seq ?_
  refine awp_plain hN rfl ?_
  refine seq_run0 (stp_move (.dat _) rfl) ?_
  obtain ⟨r2, h3, H⟩ := bnd H
  refine seq_run0 (stp_call (k_gateref2_Moment v1 r2 h3) ⟨.inl rfl, trivial⟩) ?_
  refine seq_run0 (stp_not rfl) ?_
  obtain ⟨r4, h5, H⟩ := bnd H
  refine seq_run0 (stp_call (k_gatelaw2_when (!r2) 1 r4 h5) ⟨.inl rfl, .inl rfl, trivial⟩) ?_
  refine seq_run0 (stp_assign (.dat _) rfl) ?_
  refine awp_ret ?_
  cases H
  exact ⟨trivial, .inl rfl, trivial⟩
theorem k_gatelaw2_errs (l1 : (List Int)) (r : (Int)) (H : m_gatelaw2_errs l1 = some r) : Fn Try.prog 20 [vlst (List.map C_api_Errno l1)] (resOf [vint r]) := by
  refine ⟨by kernel_rfl, pure_of (us := [vint r]) Try.func20 rfl rfl rfl rfl fun X hN => ?_⟩
  unfold m_gatelaw2_errs at H
  refine awp_seq ?_
  refine awp_plain hN rfl ?_
  refine seq_run0 (stp_assign (.dat _) rfl) ?_
  refine awp_seq ?_
  refine awp_seq ?_
  refine awp_plain hN rfl ?_
  refine seq_run0 (stp_move (.dat _) rfl) ?_
  refine seq_run0 (t_len tyU72 rfl) ?_
  refine seq_run0 (stp_move (.dat _) rfl) ?_
  refine awp_block ?_
  obtain ⟨h4, H⟩ := gif H
  refine awp_forL (fun (k2 : Nat) (s : Unit) => [(5, .dat (vlst (List.map C_api_Errno l1))), (6, .dat (vint (l1.length : Int))), (7, .dat (vint (k2 : Int)))]) (fun (k2 : Nat) (s : Unit) => []) () H ⟨rfl, rfl, rfl, trivial⟩ trivial (fun _ _ => rfl) ?_ ?_
  · rintro ⟨⟩ H
    replace H : gatelaw2_errs_E1 = some r := H
    unfold gatelaw2_errs_E1 at H
    refine awp_seq ?_
    refine awp_plain hN rfl ?_
    refine seq_run0 (stp_lss rfl rfl) ?_
    refine awp_seq ?_
    refine awp_cond _ rfl (fun h => (lt_t h).elim) (fun h => ?_)
    refine awp_exit ?_
    refine awp_seq ?_
    refine awp_plain hN rfl ?_
    refine seq_run0 (stp_assign (.dat _) rfl) ?_
    refine awp_ret ?_
    cases H
    exact ⟨trivial, .inl rfl, trivial⟩
  · rintro k2 x5 ⟨⟩ q3 h6 h7 H hq3
    replace H : gatelaw2_errs_L1 k2 x5 = some q3 := H
    unfold gatelaw2_errs_L1 at H
    refine awp_seq ?_
    refine awp_plain hN rfl ?_
    refine seq_run0 (stp_lss rfl rfl) ?_
    refine awp_seq ?_
    refine awp_cond _ rfl (fun h => ?_) (fun h => (lt_f h6 h).elim)
    refine awp_skip ?_
    refine awp_seq ?_
    refine awp_block ?_
    refine awp_seq ?_
    refine awp_plain hN rfl ?_
    refine seq_run0 (t_idx tyE72 (fun _ => rfl) rfl rfl h7) ?_
    refine seq_run0 (stp_loadE1 tyS32 rfl (map_at h7) rfl) ?_
    refine seq_run0 (stp_assign (.dat _) rfl) ?_
    refine awp_seq ?_
    refine awp_plain hN rfl ?_
    refine seq_run0 (stp_move (.dat _) rfl) ?_
    refine seq_run0 (stp_neq rfl rfl) ?_
    refine awp_cond _ rfl (fun h8 => ?_) (fun h8 => ?_)
    · replace H := ift h8 H
      refine awp_seq ?_
      refine awp_plain hN rfl ?_
      refine seq_run0 (stp_move (.dat _) rfl) ?_
      refine seq_run0 (stp_assign (.dat _) rfl) ?_
      refine awp_ret ?_
      replace H := retl H hq3
      cases H
      exact ⟨trivial, .inl rfl, trivial⟩
    · replace H := iff_ h8 H
      refine awp_skip ?_
      refine awp_plain hN rfl ?_
      refine seq_run0 (stp_add rfl rfl (by omega)) ?_
      refine seq_run0 (stp_move (.dat _) rfl) ?_
      exact ⟨_, backl H, ⟨rfl, rfl, rfl, trivial⟩, trivial⟩
theorem k_gateref2_SignerOf (l1 : (List S_api_Signer)) (v2 : Int) (r : (S_api_Signer × Bool)) (H : m_gateref2_SignerOf l1 v2 = some r) : Fn Try.prog 22 [vlst (List.map C_api_Signer l1), vint v2] (resOf [vagg (C_api_Signer r.1), vbool r.2]) := by
  refine ⟨by kernel_rfl, pure_ofF (us := [vagg (C_api_Signer r.1), vbool r.2]) Try.func22 rfl rfl rfl rfl fun X hN hR => ?_⟩
  unfold m_gateref2_SignerOf at H
  refine awpf_seq hR ?_
  refine awp_plain hN rfl ?_
  refine seq_run2 (stp_box1 1 rfl rfl) rfl ?_
  refine seq_run2 (stp_alloc 2 tyZ38 rfl) rfl ?_
  refine seq_run2 (stp_alloc 3 tyZ4 rfl) rfl ?_
  refine awpf_range hR ?_
  refine awp_plain hN rfl ?_
  refine seq_run0 (stp_move (.dat _) rfl) ?_
  refine seq_run0 (stp_call (k_slices_Backward_L_api_Signer_api_Signer_ l1) ⟨.inl rfl, trivial⟩) ?_
  refine ⟨rfl, ?_⟩
  obtain ⟨h4, H⟩ := gif H
  refine rangeP (s0 := ()) hR hN [(3, .ptr 1 0), (4, .ptr 2 0), (5, .ptr 3 0), (9, .dat (vfn 64 [vcell [[vlst (List.map C_api_Signer l1)]] 0 0]))] [(1, none, 3, [vint v2]), (2, none, 38, [vstr [], vstr [], vint 0, vint 0, vint 0]), (3, none, 4, [vbool false])] (fun (s : Unit) => [(1, 3, [vint v2]), (2, 38, [vstr [], vstr [], vint 0, vint 0, vint 0]), (3, 4, [vbool false])]) it_slices_Backward_L_api_Signer_api_Signer_ (fun _ => rfl) (enters_of Try.func64 (by kernel_rfl) rfl) rfl h4 H ⟨rfl, rfl, rfl, rfl, trivial⟩ ⟨rfl, rfl, rfl, trivial⟩ rfl rfl (fun _ => rfl) (fun _ _ => rfl) rfl (by decide) (by decide) ?_ ?_
  · rintro A X k5 x6 ⟨⟩ q3 hN h7 h8 H hq3
    replace H : gateref2_SignerOf_L1 v2 k5 x6 = some q3 := H
    unfold gateref2_SignerOf_L1 at H
    refine awp_plain hN rfl ?_
    refine seq_run2 (stp_alloc 4 tyZ38 rfl) rfl ?_
    refine seq_run2 (stp_storeW tyS38 rfl rfl rfl rfl) rfl ?_
    refine ⟨rfl, [(3, .ptr 1 0), (4, .ptr 2 0), (5, .ptr 3 0), (7, .ptr 4 0)], [(1, .box (some (A 1)) 3 [.dat (vint v2)]), (2, .box (some (A 2)) 38 [.dat (vstr []), .dat (vstr []), .dat (vint 0), .dat (vint 0), .dat (vint 0)]), (3, .box (some (A 3)) 4 [.dat (vbool false)]), (4, .box none 38 [.dat (vstr x6.Id), .dat (vstr x6.Secret), .dat (vint x6.From), .dat (vint x6.To), .dat (vint x6.Until)])], ⟨rfl, rfl, rfl, rfl, trivial⟩, ⟨rfl, rfl, rfl, rfl, trivial⟩, rfl, rfl, rfl, fun X hN => ?_⟩
    refine awp_block ?_
    refine awp_seq ?_
    refine awp_plain hN rfl ?_
    refine seq_run0 (stp_fldP tyF38_2 rfl) ?_
    refine seq_run1 (stp_load1 tyS3 rfl rfl) rfl ?_
    refine seq_run1 (stp_load1 tyS3 rfl rfl) rfl ?_
    refine seq_run0 (stp_leq rfl rfl) ?_
    refine seq_run0 (stp_move (.dat _) rfl) ?_
    refine seq_arT rfl rfl (fun hc => stp_load1 tyS3 rfl rfl) rfl anti_p ?_
    refine seq_aT rfl rfl (fun hc => stp_fldP tyF38_3 rfl) ?_
    refine seq_arT rfl rfl (fun hc => stp_load1 tyS3 (cnd (c := (decide (x6.From ≤ v2))) hc) rfl) rfl anti_p ?_
    refine seq_aT rfl rfl (fun hc => stp_lss (cnd (c := (decide (x6.From ≤ v2))) hc) (cnd (c := (decide (x6.From ≤ v2))) hc)) ?_
    refine seq_run0 (stp_pick_and rfl (fun hb => (cnd (c := (decide (x6.From ≤ v2))) hb)) rfl) ?_
    refine awp_cond _ rfl (fun h9 => ?_) (fun h9 => ?_)
    · replace H := ift h9 H
      refine awp_seq ?_
      refine awp_plain hN rfl ?_
      refine seq_run1 (stp_loadA tyS38 rfl rfl rfl) rfl ?_
      refine seq_run2 (stp_storeW tyS38 rfl rfl rfl rfl) rfl ?_
      refine seq_run2 (stp_store1 tyS4 rfl rfl rfl rfl) rfl ?_
      refine awp_ret ?_
      replace H := retl H hq3
      cases H
      exact ⟨[(1, 3, [vint v2]), (2, 38, [vstr x6.Id, vstr x6.Secret, vint x6.From, vint x6.To, vint x6.Until]), (3, 4, [vbool true])], rfl, rfl, ⟨rfl, rfl, rfl, trivial⟩, ⟨.inl ⟨_, _, _, C_api_Signer x6, rfl, rfl, rfl, rfl, tyS38⟩, .inr ⟨_, _, rfl, rfl, tyS4⟩, trivial⟩⟩
    · replace H := iff_ h9 H
      refine awp_skip ?_
      exact ⟨_, backl H, ⟨rfl, rfl, rfl, trivial⟩⟩
  · rintro A X ⟨⟩ hN hR H
    replace H : gateref2_SignerOf_E1 = some r := H
    unfold gateref2_SignerOf_E1 at H
    refine awp_seq ?_
    refine awp_plain hN rfl ?_
    refine seq_run0 (stp_dat (u' := vagg (C_api_Signer (S_api_Signer.mk [] [] 0 0 0))) (stp_build [] tyZ38 tyP38 rfl trivial) rfl) ?_
    refine seq_run2 (stp_storeW tyS38 rfl rfl rfl rfl) rfl ?_
    refine seq_run2 (stp_store1 tyS4 rfl rfl rfl rfl) rfl ?_
    refine awp_ret ?_
    cases H
    exact ⟨.inr rfl, [(4, .ptr 2 0), (5, .ptr 3 0)], [(2, .box (some (A 2)) 38 [.dat (vstr []), .dat (vstr []), .dat (vint 0), .dat (vint 0), .dat (vint 0)]), (3, .box (some (A 3)) 4 [.dat (vbool false)])], ⟨rfl, rfl, trivial⟩, ⟨rfl, rfl, trivial⟩, rfl, rfl, ⟨.inl ⟨_, _, _, C_api_Signer (S_api_Signer.mk [] [] 0 0 0), rfl, rfl, rfl, rfl, tyS38⟩, .inr ⟨_, _, rfl, rfl, tyS4⟩, trivial⟩⟩
theorem k_gateref2_UncoveredOf (v1 : (List S_api_Signer)) (v2 : S_api_Window) (v3 : Int) (r : ((List S_api_Window))) (H : m_gateref2_UncoveredOf v1 v2 v3 = some r) : Fn Try.prog 24 [vlst (List.map C_api_Signer v1), vagg (C_api_Window v2), vint v3] (resOf [vlst (List.map C_api_Window r)]) := by
  refine ⟨by kernel_rfl, pure_of (us := [vlst (List.map C_api_Window r)]) Try.func24 rfl rfl rfl rfl fun X hN => ?_⟩
  unfold m_gateref2_UncoveredOf at H
  refine awp_seq ?_
  refine awp_plain hN rfl ?_
  refine seq_run2 (stp_boxA 1 rfl) rfl ?_
  refine seq_run0 (stp_assign (.dat _) rfl) ?_
  refine awp_seq ?_
  refine awp_plain hN rfl ?_
  refine seq_run0 (stp_fldP tyF42_0 rfl) ?_
  refine seq_run1 (stp_load1 tyS3 rfl rfl) rfl ?_
  refine seq_run0 (stp_fldP tyF42_1 rfl) ?_
  refine seq_run1 (stp_load1 tyS3 rfl rfl) rfl ?_
  refine seq_run2 (t_litR (C := C_int) 2 ([v2.From, v2.To] : (List Int)) tyL22 ⟨rfl, .inl ⟨_, rfl, rfl, rfl⟩, rfl, rfl, .inl ⟨_, rfl, rfl, rfl⟩, rfl, trivial⟩ rfl rfl rfl) rfl ?_
  refine seq_run0 (stp_assign (.row _ _) rfl) ?_
  refine awp_seq ?_
  refine awp_seq ?_
  refine awp_plain hN rfl ?_
  refine seq_run0 (stp_move (.dat _) rfl) ?_
  refine seq_run0 (t_len tyU26 rfl) ?_
  refine seq_run0 (stp_move (.dat _) rfl) ?_
  refine awp_block ?_
  obtain ⟨h7, H⟩ := gif H
  refine awp_forL (fun (k5 : Nat) (s : (List Int)) => [(0, .dat (vlst (List.map C_api_Signer v1))), (2, .dat (vint v3)), (4, .ptr 1 0), (7, .row 2 s.length), (24, .dat (vlst (List.map C_api_Signer v1))), (25, .dat (vint (v1.length : Int))), (26, .dat (vint (k5 : Int)))]) (fun (k5 : Nat) (s : (List Int)) => [(1, .box none 42 [.dat (vint v2.From), .dat (vint v2.To)]), (2, .row 3 1 (List.map C_int s))]) ([v2.From, v2.To] : (List Int)) H ⟨rfl, rfl, rfl, rfl, rfl, rfl, rfl, trivial⟩ ⟨rfl, rfl, trivial⟩ (fun _ _ => rfl) ?_ ?_
  · rintro l4 H
    replace H : gateref2_UncoveredOf_E1 v1 v3 l4 = some r := H
    unfold gateref2_UncoveredOf_E1 at H
    refine awp_seq ?_
    refine awp_plain hN rfl ?_
    refine seq_run0 (stp_lss rfl rfl) ?_
    refine awp_seq ?_
    refine awp_cond _ rfl (fun h => (lt_t h).elim) (fun h => ?_)
    refine awp_exit ?_
    refine awp_seq ?_
    refine awp_plain hN rfl ?_
    refine seq_run0 (stp_move (.row _ _) rfl) ?_
    obtain ⟨r9, h10, H⟩ := bnd H
    refine seq_callG (rn [(0, 2)]) [(0, _, _, some _)] [] (kt_slices_Sort_L_int_int_ l4 r9 h10) ⟨rfl, trivial⟩ ⟨.inl (.inl rfl), trivial⟩ ⟨⟨⟨rfl, rfl, rfl⟩, by simp [stayP, sort_len h10]⟩, trivial⟩ rfl ?_
    refine awp_seq ?_
    refine awp_plain hN rfl ?_
    refine seq_run0 (stp_assign (.dat _) rfl) ?_
    refine awp_joinE (ι := (List S_api_Window)) (fun i => [(12, .row 3 i.length)]) (fun i => [(3, .row 42 2 (List.map C_api_Window i))]) (fun i => gateref2_UncoveredOf_J2 i = some r) (fun i => rfl) ?_ ?_
    · skip
      refine awp_seq ?_
      refine awp_plain hN rfl ?_
      refine seq_run0 (stp_assign (.dat _) rfl) ?_
      refine awp_block ?_
      refine awp_nilrow 12 3 42 2 rfl rfl rfl ?_
      refine awp_iter (fun (s : Int × (List S_api_Window)) => [(0, .dat (vlst (List.map C_api_Signer v1))), (2, .dat (vint v3)), (7, .row 2 l4.length), (12, .row 3 s.2.length), (13, .dat (vint s.1))]) (fun (s : Int × (List S_api_Window)) => [(2, .row 3 1 (List.map C_int r9)), (3, .row 42 2 (List.map C_api_Window s.2))]) (1, []) H ⟨rfl, rfl, congrArg (Slot.row 2) (by simp), congrArg (Slot.row 3) (by simp), rfl, trivial⟩ ⟨rfl, rfl, trivial⟩ (fun _ => rfl) ?_
      rintro ⟨v11, l12⟩ q13 H hq13
      replace H : gateref2_UncoveredOf_L3 v1 v3 r9 v11 l12 = some q13 := H
      unfold gateref2_UncoveredOf_L3 at H
      refine awp_seq ?_
      refine awp_seq ?_
      refine awp_plain hN rfl ?_
      refine seq_run0 (stp_move (.dat _) rfl) ?_
      refine seq_run0 (stp_move (.row _ _) rfl) ?_
      refine seq_run1 (t_lenR tyU22 rfl (sort_len h10).symm) rfl ?_
      refine seq_run0 (stp_lss rfl rfl) ?_
      refine awp_cond _ rfl (fun h14 => ?_) (fun h14 => ?_)
      · replace H := ift h14 H
        refine awp_skip ?_
        refine awp_joinE (ι := (List S_api_Window)) (fun i => [(0, .dat (vlst (List.map C_api_Signer v1))), (2, .dat (vint v3)), (7, .row 2 l4.length), (12, .row 3 i.length), (13, .dat (vint v11))]) (fun i => [(2, .row 3 1 (List.map C_int r9)), (3, .row 42 2 (List.map C_api_Window i))]) (fun i => gateref2_UncoveredOf_J4 v11 i = some q13) (fun i => rfl) ?_ ?_
        · skip
          refine awp_block ?_
          refine awp_seq ?_
          refine awp_draw mixed hN rfl rfl ?_
          refine seq_run0 (stp_move (.row _ _) rfl) ?_
          refine seq_run0 (stp_move (.dat _) rfl) ?_
          refine seq_run0 (stp_wrap _ rfl rfl (.inr (.inl ⟨rfl, rfl⟩))) ?_
          obtain ⟨x15, h16, H⟩ := bnd H
          refine seq_run1 (t_idxRI tyE22 rfl (sort_len h10).symm rfl h16) rfl ?_
          refine seq_run1 (t_loadR1 tyS3 rfl (sort_len h10).symm (at_some h16).2 rfl) rfl ?_
          refine seq_run0 (stp_move (.row _ _) rfl) ?_
          refine seq_run0 (stp_move (.dat _) rfl) ?_
          obtain ⟨x17, h18, H⟩ := bnd H
          refine seq_run1 (t_idxRI tyE22 rfl (sort_len h10).symm rfl h18) rfl ?_
          refine seq_run1 (t_loadR1 tyS3 rfl (sort_len h10).symm (at_some h18).2 rfl) rfl ?_
          refine seq_run0 (stp_assign (.dat _) rfl) ?_
          refine seq_run0 (stp_assign (.dat _) rfl) ?_
          refine ⟨rfl, ?_⟩
          refine awp_seq ?_
          refine awp_plain hN rfl ?_
          refine seq_run0 (stp_move (.dat _) rfl) ?_
          refine seq_run0 (stp_move (.dat _) rfl) ?_
          obtain ⟨r19, h20, H⟩ := bnd H
          refine seq_run0 (stp_call (k_gateref2_SignerOf v1 x15 r19 h20) ⟨.inl rfl, .inl rfl, trivial⟩) ?_
          refine seq_run0 (stp_move (.dat _) rfl) ?_
          refine seq_run0 (stp_ext rfl rfl) ?_
          refine seq_run0 (stp_ext rfl rfl) ?_
          refine seq_run2 (stp_alloc 4 tyZ38 rfl) rfl ?_
          refine seq_run2 (stp_storeW tyS38 rfl rfl rfl rfl) rfl ?_
          refine seq_run0 (stp_assign (.dat _) rfl) ?_
          refine awp_seq ?_
          refine awp_seq ?_
          refine awp_plain hN rfl ?_
          refine seq_run0 (stp_move (.dat _) rfl) ?_
          refine seq_run0 (stp_move (.dat _) rfl) ?_
          refine seq_run0 (stp_eql rfl rfl) ?_
          refine seq_run0 (stp_move (.dat _) rfl) ?_
          refine seq_aF rfl rfl (fun hc => stp_move (.dat _) rfl) ?_
          refine seq_aF rfl rfl (fun hc => stp_move (.dat _) (cnd (c := (!(decide (x15 = x17)))) hc)) ?_
          refine seq_bT rfl rfl (fun hc => stp_fldP tyF38_4 rfl) ?_
          refine seq_brT rfl rfl (fun hc => stp_load1 tyS3 (cnd (c := ((!(decide (x15 = x17))) && r19.2)) hc) rfl) rfl anti_p ?_
          refine seq_bT rfl rfl (fun hc => stp_move (.dat _) rfl) ?_
          refine seq_bT rfl rfl (fun hc => stp_move (.dat _) rfl) ?_
          refine seq_bT rfl rfl (fun hc => stp_wrap _ (cnd (c := ((!(decide (x15 = x17))) && r19.2)) hc) (cnd (c := ((!(decide (x15 = x17))) && r19.2)) hc) (.inl ⟨rfl, rfl⟩)) ?_
          refine seq_bT rfl rfl (fun hc => stp_geq (cnd (c := ((!(decide (x15 = x17))) && r19.2)) hc) (cnd (c := ((!(decide (x15 = x17))) && r19.2)) hc)) ?_
          refine seq_aF rfl rfl (fun hc => stp_pick_and (cnd (c := (!(decide (x15 = x17)))) hc) (fun hb => (cnd (c := ((!(decide (x15 = x17))) && r19.2)) (andI hc hb))) rfl) ?_
          refine seq_run0 (stp_pick_or rfl rfl (fun hb => (cnd (c := (!(decide (x15 = x17)))) (notI hb)))) ?_
          refine awp_cond _ rfl (fun h21 => ?_) (fun h21 => ?_)
          · replace H := ift h21 H
            refine awp_exit ?_
            exact ⟨l12, H, ⟨rfl, rfl, congrArg (Slot.row 2) (by simp), rfl, rfl, trivial⟩, ⟨rfl, rfl, trivial⟩⟩
          · replace H := iff_ h21 H
            refine awp_skip ?_
            refine awp_seq ?_
            refine awp_plain hN rfl ?_
            refine seq_run0 (stp_move (.row _ _) rfl) ?_
            refine seq_run1 (t_lenR tyU47 rfl rfl) rfl ?_
            refine seq_run0 (stp_wrap _ rfl rfl (.inr (.inl ⟨rfl, rfl⟩))) ?_
            refine seq_run0 (stp_assign (.dat _) rfl) ?_
            refine awp_joinE (ι := Bool) (fun i => [(0, .dat (vlst (List.map C_api_Signer v1))), (2, .dat (vint v3)), (7, .row 2 l4.length), (12, .row 3 l12.length), (13, .dat (vint v11)), (14, .dat (vint x15)), (15, .dat (vint x17)), (18, .dat (vint (wr ((l12.length : Int) - 1)))), (107, .dat (vbool i))]) (fun i => [(2, .row 3 1 (List.map C_int r9)), (3, .row 42 2 (List.map C_api_Window l12))]) (fun i => gateref2_UncoveredOf_J5 v11 l12 x15 x17 i = some q13) (fun i => rfl) ?_ ?_
            · skip
              refine awp_plain hN rfl ?_
              refine seq_run0 (stp_move (.dat _) rfl) ?_
              refine seq_run0 (stp_geq rfl rfl) ?_
              refine seq_run0 (stp_move (.dat _) rfl) ?_
              refine seq_split (j := 2) rfl rfl (fun h22 => ?_) (fun h22 => ?_) rfl
              · have h23 := un1 h22
                replace H := ift h23 H
                refine seq_g0 rfl rfl h22 (stp_move (.row _ _) rfl) ?_
                refine seq_g0 rfl rfl h22 (stp_move (.dat _) rfl) ?_
                obtain ⟨x24, h25, H⟩ := bnd H
                refine seq_g1 rfl rfl h22 (t_idxRI tyE47 rfl rfl rfl h25) rfl ?_
                refine seq_g0 rfl rfl h22 (stp_fldR tyF42_1 rfl) ?_
                refine seq_g1 rfl rfl h22 (t_loadR1 tyS3 rfl rfl (at_some h25).2 rfl) rfl ?_
                refine seq_g0 rfl rfl h22 (stp_move (.dat _) rfl) ?_
                refine seq_g0 rfl rfl h22 (stp_eql rfl rfl) ?_
                refine seq_run0 (stp_pick_t rfl (bTT h23) rfl) ?_
                exact ⟨decide (x24.To = x15), H, ⟨rfl, rfl, congrArg (Slot.row 2) (by simp), rfl, rfl, rfl, rfl, rfl, rfl, trivial⟩, ⟨rfl, rfl, trivial⟩⟩
              · have h26 := un2 h22
                replace H := iff_ h26 H
                refine seq_skip rfl rfl h22 ?_
                refine seq_skip rfl rfl h22 ?_
                refine seq_skip rfl rfl h22 ?_
                refine seq_skip rfl rfl h22 ?_
                refine seq_skip rfl rfl h22 ?_
                refine seq_skip rfl rfl h22 ?_
                refine seq_skip rfl rfl h22 ?_
                refine seq_run0 (stp_pick_f rfl (bFF h26) rfl) ?_
                exact ⟨false, H, ⟨rfl, rfl, congrArg (Slot.row 2) (by simp), rfl, rfl, rfl, rfl, rfl, rfl, trivial⟩, ⟨rfl, rfl, trivial⟩⟩
            · rintro v27 H
              replace H : gateref2_UncoveredOf_J5 v11 l12 x15 x17 v27 = some q13 := H
              unfold gateref2_UncoveredOf_J5 at H
              refine awp_cond _ rfl (fun h28 => ?_) (fun h28 => ?_)
              · replace H := ift h28 H
                refine awp_plain hN rfl ?_
                refine seq_run0 (stp_move (.row _ _) rfl) ?_
                refine seq_run0 (stp_move (.dat _) rfl) ?_
                refine seq_run0 (stp_move (.dat _) rfl) ?_
                obtain ⟨x29, h30, H⟩ := bnd H
                refine seq_run1 (t_idxRI tyE47 rfl rfl rfl h30) rfl ?_
                refine seq_run0 (stp_fldR tyF42_1 rfl) ?_
                refine seq_run2 (t_storeR (S_api_Window.mk x29.From x17) tyS3 rfl rfl rfl rfl (at_some h30).2 rfl rfl) rfl ?_
                exact ⟨(l12.set ((wr ((l12.length : Int) - 1)).toNat) (S_api_Window.mk x29.From x17)), H, ⟨rfl, rfl, congrArg (Slot.row 2) (by simp), congrArg (Slot.row 3) (by simp), rfl, trivial⟩, ⟨rfl, rfl, trivial⟩⟩
              · replace H := iff_ h28 H
                refine awp_plain hN rfl ?_
                refine seq_run0 (stp_move (.row _ _) rfl) ?_
                refine seq_run0 (stp_move (.dat _) rfl) ?_
                refine seq_run0 (stp_move (.dat _) rfl) ?_
                refine seq_run0 (stp_dat (u' := vagg (C_api_Window (S_api_Window.mk x15 x17))) (stp_build [(0, [vint x15]), (1, [vint x17])] tyZ42 tyP42 rfl ⟨rfl, .inl ⟨_, rfl, rfl, rfl⟩, rfl, rfl, .inl ⟨_, rfl, rfl, rfl⟩, rfl, trivial⟩) rfl) ?_
                refine seq_run0 (stp_dat (u' := vlst (List.map C_api_Window [(S_api_Window.mk x15 x17)])) (stp_lit [_] tyL47 ⟨rfl, .inr rfl, rfl, trivial⟩ rfl rfl) rfl) ?_
                obtain ⟨h31, H⟩ := gif H
                refine seq_run2 (t_app tyL47 (fun _ => rfl) rfl rfl rfl ⟨by simp, by simpa using h31⟩ rfl) rfl ?_
                refine seq_run0 (stp_assign (.row _ _) rfl) ?_
                exact ⟨(l12 ++ [(S_api_Window.mk x15 x17)]), H, ⟨rfl, rfl, congrArg (Slot.row 2) (by simp), rfl, rfl, trivial⟩, ⟨rfl, rfl, trivial⟩⟩
        · rintro v32 H
          replace H : gateref2_UncoveredOf_J4 v11 v32 = some q13 := H
          unfold gateref2_UncoveredOf_J4 at H
          refine awp_plain hN rfl ?_
          refine seq_run0 (stp_move (.dat _) rfl) ?_
          refine seq_run0 (stp_wrap _ rfl rfl (.inl ⟨rfl, rfl⟩)) ?_
          refine seq_run0 (stp_assign (.dat _) rfl) ?_
          exact ⟨_, backl H, ⟨rfl, rfl, congrArg (Slot.row 2) (by simp), rfl, rfl, trivial⟩, ⟨rfl, rfl, trivial⟩⟩
      · replace H := iff_ h14 H
        refine awp_exit ?_
        replace H := outl H hq13
        exact ⟨l12, H, ⟨rfl, trivial⟩, ⟨rfl, trivial⟩⟩
    · rintro v33 H
      replace H : gateref2_UncoveredOf_J2 v33 = some r := H
      unfold gateref2_UncoveredOf_J2 at H
      refine awp_seq ?_
      refine awp_plain hN rfl ?_
      refine seq_run0 (stp_move (.row _ _) rfl) ?_
      refine seq_run0 (stp_assign (.row _ _) rfl) ?_
      refine awp_ret ?_
      cases H
      exact ⟨trivial, t_slotv rfl rfl, trivial⟩
  · rintro k5 x8 l4 q6 h34 h35 H hq6
    replace H : gateref2_UncoveredOf_L1 v2 v3 k5 x8 l4 = some q6 := H
    unfold gateref2_UncoveredOf_L1 at H
    refine awp_seq ?_
    refine awp_plain hN rfl ?_
    refine seq_run0 (stp_lss rfl rfl) ?_
    refine awp_seq ?_
    refine awp_cond _ rfl (fun h => ?_) (fun h => (lt_f h34 h).elim)
    refine awp_skip ?_
    refine awp_seq ?_
    refine awp_block ?_
    refine awp_seq ?_
    refine awp_plain hN rfl ?_
    refine seq_run0 (t_idx tyE26 (fun _ => rfl) rfl rfl h35) ?_
    refine seq_run0 (stp_loadEA tyS38 rfl (map_at h35) rfl) ?_
    refine seq_run2 (stp_alloc 5 tyZ38 rfl) rfl ?_
    refine seq_run2 (stp_storeW tyS38 rfl rfl rfl rfl) rfl ?_
    refine awp_seq ?_
    refine awp_plain hN rfl ?_
    refine seq_run0 (stp_fldP tyF38_2 rfl) ?_
    refine seq_run1 (stp_load1 tyS3 rfl rfl) rfl ?_
    refine seq_run0 (stp_fldP tyF38_3 rfl) ?_
    refine seq_run1 (stp_load1 tyS3 rfl rfl) rfl ?_
    refine seq_run0 (stp_fldP tyF38_4 rfl) ?_
    refine seq_run1 (stp_load1 tyS3 rfl rfl) rfl ?_
    refine seq_run0 (stp_move (.dat _) rfl) ?_
    refine seq_run0 (stp_wrap _ rfl rfl (.inr (.inl ⟨rfl, rfl⟩))) ?_
    refine seq_run0 (stp_wrap _ rfl rfl (.inl ⟨rfl, rfl⟩)) ?_
    refine seq_run0 (stp_dat (u' := vlst (List.map C_int [x8.From, x8.To, wr ((wr (x8.Until - v3)) + 1)])) (stp_lit [[_], [_], [_]] tyL22 ⟨rfl, .inl ⟨_, rfl, rfl, rfl⟩, rfl, rfl, .inl ⟨_, rfl, rfl, rfl⟩, rfl, rfl, .inl ⟨_, rfl, rfl, rfl⟩, rfl, trivial⟩ rfl rfl) rfl) ?_
    refine seq_run0 (t_len tyU22 rfl) ?_
    refine seq_run0 (stp_move (.dat _) rfl) ?_
    refine awp_block ?_
    obtain ⟨h39, H⟩ := gif H
    refine awp_forL (fun (k37 : Nat) (s : (List Int)) => [(0, .dat (vlst (List.map C_api_Signer v1))), (2, .dat (vint v3)), (4, .ptr 1 0), (7, .row 2 s.length), (24, .dat (vlst (List.map C_api_Signer v1))), (25, .dat (vint (v1.length : Int))), (26, .dat (vint (k5 : Int))), (39, .dat (vlst (List.map C_int [x8.From, x8.To, wr ((wr (x8.Until - v3)) + 1)]))), (40, .dat (vint ([x8.From, x8.To, wr ((wr (x8.Until - v3)) + 1)].length : Int))), (41, .dat (vint (k37 : Int)))]) (fun (k37 : Nat) (s : (List Int)) => [(1, .box none 42 [.dat (vint v2.From), .dat (vint v2.To)]), (2, .row 3 1 (List.map C_int s))]) l4 H ⟨rfl, rfl, rfl, rfl, rfl, rfl, rfl, rfl, rfl, rfl, trivial⟩ ⟨rfl, rfl, trivial⟩ (fun _ _ => rfl) ?_ ?_
    · rintro l36 H
      replace H : gateref2_UncoveredOf_E6 l36 = some q6 := H
      unfold gateref2_UncoveredOf_E6 at H
      refine awp_seq ?_
      refine awp_plain hN rfl ?_
      refine seq_run0 (stp_lss rfl rfl) ?_
      refine awp_seq ?_
      refine awp_cond _ rfl (fun h => (lt_t h).elim) (fun h => ?_)
      refine awp_exit ?_
      refine awp_plain hN rfl ?_
      refine seq_run0 (stp_add rfl rfl (by omega)) ?_
      refine seq_run0 (stp_move (.dat _) rfl) ?_
      exact ⟨_, backl H, ⟨rfl, rfl, rfl, rfl, rfl, rfl, rfl, trivial⟩, ⟨rfl, rfl, trivial⟩⟩
    · rintro k37 x40 l36 q38 h41 h42 H hq38
      replace H : gateref2_UncoveredOf_L6 v2 k37 x40 l36 = some q38 := H
      unfold gateref2_UncoveredOf_L6 at H
      refine awp_seq ?_
      refine awp_plain hN rfl ?_
      refine seq_run0 (stp_lss rfl rfl) ?_
      refine awp_seq ?_
      refine awp_cond _ rfl (fun h => ?_) (fun h => (lt_f h41 h).elim)
      refine awp_skip ?_
      refine awp_joinE (ι := (List Int)) (fun i => [(0, .dat (vlst (List.map C_api_Signer v1))), (2, .dat (vint v3)), (4, .ptr 1 0), (7, .row 2 i.length), (24, .dat (vlst (List.map C_api_Signer v1))), (25, .dat (vint (v1.length : Int))), (26, .dat (vint (k5 : Int))), (39, .dat (vlst (List.map C_int [x8.From, x8.To, wr ((wr (x8.Until - v3)) + 1)]))), (40, .dat (vint ([x8.From, x8.To, wr ((wr (x8.Until - v3)) + 1)].length : Int))), (41, .dat (vint (k37 : Int)))]) (fun i => [(1, .box none 42 [.dat (vint v2.From), .dat (vint v2.To)]), (2, .row 3 1 (List.map C_int i))]) (fun i => gateref2_UncoveredOf_J7 i = some q38) (fun i => rfl) ?_ ?_
      · skip
        refine awp_block ?_
        refine awp_seq ?_
        refine awp_plain hN rfl ?_
        refine seq_run0 (t_idx tyE22 (fun _ => rfl) rfl rfl h42) ?_
        refine seq_run0 (stp_loadE1 tyS3 rfl (map_at h42) rfl) ?_
        refine seq_run0 (stp_assign (.dat _) rfl) ?_
        refine awp_seq ?_
        refine awp_plain hN rfl ?_
        refine seq_run0 (stp_move (.dat _) rfl) ?_
        refine seq_run0 (stp_fldP tyF42_0 rfl) ?_
        refine seq_run1 (stp_load1 tyS3 rfl rfl) rfl ?_
        refine seq_run0 (stp_fldP tyF42_1 rfl) ?_
        refine seq_run1 (stp_load1 tyS3 rfl rfl) rfl ?_
        obtain ⟨r43, h44, H⟩ := bnd H
        refine seq_run0 (stp_call (k_gateref2_in x40 v2.From v2.To r43 h44) ⟨.inl rfl, .inl rfl, .inl rfl, trivial⟩) ?_
        refine awp_cond _ rfl (fun h45 => ?_) (fun h45 => ?_)
        · replace H := ift h45 H
          refine awp_plain hN rfl ?_
          refine seq_run0 (stp_move (.row _ _) rfl) ?_
          refine seq_run0 (stp_move (.dat _) rfl) ?_
          refine seq_run0 (stp_dat (u' := vlst (List.map C_int [x40])) (stp_lit [[_]] tyL22 ⟨rfl, .inl ⟨_, rfl, rfl, rfl⟩, rfl, trivial⟩ rfl rfl) rfl) ?_
          obtain ⟨h46, H⟩ := gif H
          refine seq_run2 (t_app tyL22 (fun _ => rfl) rfl rfl rfl ⟨by simp, by simpa using h46⟩ rfl) rfl ?_
          refine seq_run0 (stp_assign (.row _ _) rfl) ?_
          exact ⟨(l36 ++ [x40]), H, ⟨rfl, rfl, rfl, rfl, rfl, rfl, rfl, rfl, rfl, rfl, trivial⟩, ⟨rfl, rfl, trivial⟩⟩
        · replace H := iff_ h45 H
          refine awp_skip ?_
          exact ⟨l36, H, ⟨rfl, rfl, rfl, rfl, rfl, rfl, rfl, rfl, rfl, rfl, trivial⟩, ⟨rfl, rfl, trivial⟩⟩
      · rintro v47 H
        replace H : gateref2_UncoveredOf_J7 v47 = some q38 := H
        unfold gateref2_UncoveredOf_J7 at H
        refine awp_plain hN rfl ?_
        refine seq_run0 (stp_add rfl rfl (by omega)) ?_
        refine seq_run0 (stp_move (.dat _) rfl) ?_
        exact ⟨_, backl H, ⟨rfl, rfl, rfl, rfl, rfl, rfl, rfl, rfl, rfl, rfl, trivial⟩, ⟨rfl, rfl, trivial⟩⟩
theorem k_slices_Equal_L_api_Window_api_Window_ (s1 : (List S_api_Window)) (s2 : (List S_api_Window)) (r : (Bool)) (H : m_slices_Equal_L_api_Window_api_Window_ s1 s2 = some r) : Fn Try.prog 25 [vlst (List.map C_api_Window s1), vlst (List.map C_api_Window s2)] (resOf [vbool r]) := by
  refine ⟨by kernel_rfl, pure_of (us := [vbool r]) Try.func25 rfl rfl rfl rfl fun X hN => ?_⟩
  unfold m_slices_Equal_L_api_Window_api_Window_ at H
  refine awp_seq ?_
  refine awp_plain hN rfl ?_
  refine seq_run0 (stp_assign (.dat _) rfl) ?_
  refine awp_seq ?_
  refine awp_seq ?_
  refine awp_plain hN rfl ?_
  refine seq_run0 (stp_move (.dat _) rfl) ?_
  refine seq_run0 (t_len tyU47 rfl) ?_
  refine seq_run0 (stp_move (.dat _) rfl) ?_
  refine seq_run0 (t_len tyU47 rfl) ?_
  refine seq_run0 (stp_neq rfl rfl) ?_
  refine awp_cond _ rfl (fun h3 => ?_) (fun h3 => ?_)
  · replace H := ift h3 H
    refine awp_seq ?_
    refine awp_plain hN rfl ?_
    refine seq_run0 (stp_assign (.dat _) rfl) ?_
    refine awp_ret ?_
    cases H
    exact ⟨trivial, .inl rfl, trivial⟩
  · replace H := iff_ h3 H
    refine awp_skip ?_
    refine awp_seq ?_
    refine awp_seq ?_
    refine awp_plain hN rfl ?_
    refine seq_run0 (stp_move (.dat _) rfl) ?_
    refine seq_run0 (t_len tyU47 rfl) ?_
    refine seq_run0 (stp_move (.dat _) rfl) ?_
    refine awp_block ?_
    obtain ⟨h6, H⟩ := gif H
    refine awp_forL (fun (k4 : Nat) (s : Unit) => [(0, .dat (vlst (List.map C_api_Window s1))), (1, .dat (vlst (List.map C_api_Window s2))), (12, .dat (vint (s1.length : Int))), (13, .dat (vint (k4 : Int)))]) (fun (k4 : Nat) (s : Unit) => []) () H ⟨rfl, rfl, rfl, rfl, trivial⟩ trivial (fun _ _ => rfl) ?_ ?_
    · rintro ⟨⟩ H
      replace H : slices_Equal_L_api_Window_api_Window__E1 = some r := H
      unfold slices_Equal_L_api_Window_api_Window__E1 at H
      refine awp_seq ?_
      refine awp_plain hN rfl ?_
      refine seq_run0 (stp_lss rfl rfl) ?_
      refine awp_seq ?_
      refine awp_cond _ rfl (fun h => (lt_t h).elim) (fun h => ?_)
      refine awp_exit ?_
      refine awp_seq ?_
      refine awp_plain hN rfl ?_
      refine seq_run0 (stp_assign (.dat _) rfl) ?_
      refine awp_ret ?_
      cases H
      exact ⟨trivial, .inl rfl, trivial⟩
    · rintro k4 x7 ⟨⟩ q5 h8 h9 H hq5
      replace H : slices_Equal_L_api_Window_api_Window__L1 s2 k4 x7 = some q5 := H
      unfold slices_Equal_L_api_Window_api_Window__L1 at H
      refine awp_seq ?_
      refine awp_plain hN rfl ?_
      refine seq_run0 (stp_lss rfl rfl) ?_
      refine awp_seq ?_
      refine awp_cond _ rfl (fun h => ?_) (fun h => (lt_f h8 h).elim)
      refine awp_skip ?_
      refine awp_seq ?_
      refine awp_block ?_
      refine awp_seq ?_
      refine awp_plain hN rfl ?_
      refine seq_run0 (stp_move (.dat _) rfl) ?_
      refine seq_run0 (stp_assign (.dat _) rfl) ?_
      refine awp_seq ?_
      refine awp_draw mixed hN rfl rfl ?_
      refine seq_run0 (stp_move (.dat _) rfl) ?_
      refine seq_run0 (stp_move (.dat _) rfl) ?_
      refine seq_run0 (t_idx tyE47 (fun _ => rfl) rfl rfl h9) ?_
      refine seq_run0 (stp_loadEA tyS42 rfl (map_at h9) rfl) ?_
      refine seq_run0 (stp_move (.dat _) rfl) ?_
      refine seq_run0 (stp_move (.dat _) rfl) ?_
      obtain ⟨x10, h11, H⟩ := bnd H
      refine seq_run0 (t_idx tyE47 (fun _ => rfl) rfl rfl h11) ?_
      refine seq_run0 (stp_loadEA tyS42 rfl (map_at h11) rfl) ?_
      refine seq_run0 (stp_aneq [_, _] [_, _] tyQ42 rfl rfl rfl) ?_
      refine ⟨rfl, ?_⟩
      refine awp_cond _ rfl (fun h12 => ?_) (fun h12 => ?_)
      · replace H := ift h12 H
        refine awp_seq ?_
        refine awp_plain hN rfl ?_
        refine seq_run0 (stp_assign (.dat _) rfl) ?_
        refine awp_ret ?_
        replace H := retl H hq5
        cases H
        exact ⟨trivial, .inl rfl, trivial⟩
      · replace H := iff_ h12 H
        refine awp_skip ?_
        refine awp_plain hN rfl ?_
        refine seq_run0 (stp_add rfl rfl (by omega)) ?_
        refine seq_run0 (stp_move (.dat _) rfl) ?_
        exact ⟨_, backl H, ⟨rfl, rfl, rfl, rfl, trivial⟩, trivial⟩
theorem k_token_Encode (s1 : Bs) (r : (Bs)) (H : m_token_Encode s1 = some r) : Fn Try.prog 38 [vstr s1] (resOf [vstr r]) := by
  refine ⟨by kernel_rfl, pure_of (us := [vstr r]) Try.func38 rfl rfl rfl rfl fun X hN => ?_⟩
  unfold m_token_Encode at H
  refine awp_seq ?_
  refine awp_plain hN rfl ?_
  refine seq_run0 (stp_assign (.dat _) rfl) ?_
  refine awp_seq ?_
  refine awp_plain hN rfl ?_
  refine seq_run0 (stp_assign (.dat _) rfl) ?_
  refine awp_joinE (ι := (List Int)) (fun i => [(3, .row 1 i.length)]) (fun i => [(1, .row 5 1 (List.map C_uint8 i))]) (fun i => token_Encode_J1 i = some r) (fun i => rfl) ?_ ?_
  · skip
    refine awp_block ?_
    refine awp_nilrow 3 1 5 1 rfl rfl rfl ?_
    refine awp_iter (fun (s : Bs × (List Int)) => [(0, .dat (vstr s.1)), (3, .row 1 s.2.length)]) (fun (s : Bs × (List Int)) => [(1, .row 5 1 (List.map C_uint8 s.2))]) (s1, []) H ⟨rfl, congrArg (Slot.row 1) (by simp), trivial⟩ ⟨rfl, trivial⟩ (fun _ => rfl) ?_
    rintro ⟨s2, l3⟩ q4 H hq4
    replace H : token_Encode_L2 s2 l3 = some q4 := H
    unfold token_Encode_L2 at H
    refine awp_seq ?_
    refine awp_seq ?_
    refine awp_plain hN rfl ?_
    refine seq_run0 (stp_move (.dat _) rfl) ?_
    refine seq_run0 (stp_len_str tyU9 rfl) ?_
    refine seq_run0 (stp_gtr rfl rfl) ?_
    refine awp_cond _ rfl (fun h5 => ?_) (fun h5 => ?_)
    · replace H := ift h5 H
      refine awp_skip ?_
      refine awp_block ?_
      refine awp_seq ?_
      refine awp_plain hN rfl ?_
      refine seq_run0 (stp_move (.dat _) rfl) ?_
      refine seq_run0 (stp_len_str tyU9 rfl) ?_
      refine seq_run0 (stp_min rfl rfl) ?_
      refine seq_run0 (stp_assign (.dat _) rfl) ?_
      refine awp_seq ?_
      refine awp_plain hN rfl ?_
      refine seq_run0 (stp_assign (.dat _) rfl) ?_
      refine awp_seq ?_
      refine awp_seq ?_
      refine awp_plain hN rfl ?_
      refine seq_run0 (stp_move (.dat _) rfl) ?_
      refine awp_block ?_
      obtain ⟨h9, H⟩ := gif H
      refine awp_rng (fun (k7 : Nat) (s : Int) => [(0, .dat (vstr s2)), (3, .row 1 l3.length), (4, .dat (vint (min 3 (s2.length : Int)))), (5, .dat (vint s)), (14, .dat (vint (k7 : Int)))]) (fun (k7 : Nat) (s : Int) => [(1, .row 5 1 (List.map C_uint8 l3))]) 0 H ⟨rfl, rfl, rfl, rfl, rfl, trivial⟩ ⟨rfl, trivial⟩ (fun _ _ => rfl) ?_ ?_
      · rintro x6 H
        replace H : token_Encode_E3 s2 l3 x6 = some q4 := H
        unfold token_Encode_E3 at H
        refine awp_seq ?_
        refine awp_plain hN rfl ?_
        refine seq_run0 (stp_lss rfl rfl) ?_
        refine awp_seq ?_
        refine awp_cond _ rfl (fun h => (lt_t h).elim) (fun h => ?_)
        refine awp_exit ?_
        refine awp_seq ?_
        refine awp_seq ?_
        refine awp_plain hN rfl ?_
        refine seq_run0 (stp_move (.dat _) rfl) ?_
        refine seq_run0 (stp_wrap _ rfl rfl (.inl ⟨rfl, rfl⟩)) ?_
        refine seq_run0 (stp_move (.dat _) rfl) ?_
        refine awp_block ?_
        obtain ⟨h13, H⟩ := gif H
        refine awp_rng (fun (k11 : Nat) (s : (List Int)) => [(0, .dat (vstr s2)), (3, .row 1 s.length), (4, .dat (vint (min 3 (s2.length : Int)))), (5, .dat (vint x6)), (30, .dat (vint (wr ((min 3 (s2.length : Int)) + 1)))), (31, .dat (vint (k11 : Int)))]) (fun (k11 : Nat) (s : (List Int)) => [(1, .row 5 1 (List.map C_uint8 s))]) l3 H ⟨rfl, rfl, rfl, rfl, rfl, rfl, trivial⟩ ⟨rfl, trivial⟩ (fun _ _ => rfl) ?_ ?_
        · rintro l10 H
          replace H : token_Encode_E4 s2 l10 = some q4 := H
          unfold token_Encode_E4 at H
          refine awp_seq ?_
          refine awp_plain hN rfl ?_
          refine seq_run0 (stp_lss rfl rfl) ?_
          refine awp_seq ?_
          refine awp_cond _ rfl (fun h => (lt_tI h).elim) (fun h => ?_)
          refine awp_exit ?_
          refine awp_plain hN rfl ?_
          refine seq_run0 (stp_move (.dat _) rfl) ?_
          refine seq_run0 (stp_move (.dat _) rfl) ?_
          obtain ⟨l14, h15, H⟩ := bnd H
          refine seq_run0 (t_subS tyU9 rfl rfl rfl h15) ?_
          refine seq_run0 (stp_assign (.dat _) rfl) ?_
          exact ⟨_, backl H, ⟨rfl, rfl, trivial⟩, ⟨rfl, trivial⟩⟩
        · rintro k11 l10 q12 h16 H hq12
          replace H : token_Encode_L4 x6 k11 l10 = some q12 := H
          unfold token_Encode_L4 at H
          refine awp_seq ?_
          refine awp_plain hN rfl ?_
          refine seq_run0 (stp_lss rfl rfl) ?_
          refine awp_seq ?_
          refine awp_cond _ rfl (fun h => ?_) (fun h => (lt_fI h16 h).elim)
          refine awp_skip ?_
          refine awp_seq ?_
          refine awp_block ?_
          refine awp_seq ?_
          refine awp_plain hN rfl ?_
          refine seq_run0 (stp_move (.dat _) rfl) ?_
          refine seq_run0 (stp_assign (.dat _) rfl) ?_
          refine awp_plain hN rfl ?_
          refine seq_run0 (stp_move (.row _ _) rfl) ?_
          refine seq_run0 (stp_move (.dat _) rfl) ?_
          refine seq_run0 (stp_move (.dat _) rfl) ?_
          refine seq_run0 (stp_wrap _ rfl rfl (.inr (.inr ⟨rfl, rfl⟩))) ?_
          refine seq_run0 (stp_wrap _ rfl rfl (.inr (.inl ⟨rfl, rfl⟩))) ?_
          obtain ⟨h17, H⟩ := gif H
          refine seq_run0 (stp_dat (stp_shr rfl rfl h17) rfl) ?_
          refine seq_run0 (stp_dat (stp_and rfl rfl) rfl) ?_
          obtain ⟨x18, h19, H⟩ := bnd H
          refine seq_run0 (t_byteI tyU9 rfl rfl h19) ?_
          refine seq_run0 (stp_dat (u' := vlst (List.map C_uint8 [(x18.toNat : Int)])) (stp_lit [[_]] tyL81 ⟨rfl, .inl ⟨_, rfl, rfl, rfl⟩, rfl, trivial⟩ rfl rfl) rfl) ?_
          obtain ⟨h20, H⟩ := gif H
          refine seq_run2 (t_app tyL81 (fun _ => rfl) rfl rfl rfl ⟨by simp, by simpa using h20⟩ rfl) rfl ?_
          refine seq_run0 (stp_assign (.row _ _) rfl) ?_
          refine awp_plain hN rfl ?_
          refine seq_run0 (stp_add rfl rfl (by omega)) ?_
          refine seq_run0 (stp_move (.dat _) rfl) ?_
          exact ⟨_, backl H, ⟨rfl, rfl, rfl, rfl, rfl, rfl, trivial⟩, ⟨rfl, trivial⟩⟩
      · rintro k7 x6 q8 h21 H hq8
        replace H : token_Encode_L3 s2 k7 x6 = some q8 := H
        unfold token_Encode_L3 at H
        refine awp_seq ?_
        refine awp_plain hN rfl ?_
        refine seq_run0 (stp_lss rfl rfl) ?_
        refine awp_seq ?_
        refine awp_cond _ rfl (fun h => ?_) (fun h => (lt_f h21 h).elim)
        refine awp_skip ?_
        refine awp_joinE (ι := Int) (fun i => [(0, .dat (vstr s2)), (3, .row 1 l3.length), (4, .dat (vint (min 3 (s2.length : Int)))), (5, .dat (vint i)), (14, .dat (vint (k7 : Int)))]) (fun i => [(1, .row 5 1 (List.map C_uint8 l3))]) (fun i => token_Encode_J5 i = some q8) (fun i => rfl) ?_ ?_
        · skip
          refine awp_block ?_
          refine awp_seq ?_
          refine awp_plain hN rfl ?_
          refine seq_run0 (stp_move (.dat _) rfl) ?_
          refine seq_run0 (stp_assign (.dat _) rfl) ?_
          refine awp_seq ?_
          refine awp_plain hN rfl ?_
          refine seq_run0 (stp_move (.dat _) rfl) ?_
          refine seq_run0 (stp_dat (stp_shl rfl rfl (by decide)) rfl) ?_
          refine seq_run0 (stp_assign (.dat _) rfl) ?_
          refine awp_seq ?_
          refine awp_plain hN rfl ?_
          refine seq_run0 (stp_move (.dat _) rfl) ?_
          refine seq_run0 (stp_move (.dat _) rfl) ?_
          refine seq_run0 (stp_lss rfl rfl) ?_
          refine awp_cond _ rfl (fun h22 => ?_) (fun h22 => ?_)
          · replace H := ift h22 H
            refine awp_plain hN rfl ?_
            refine seq_run0 (stp_move (.dat _) rfl) ?_
            refine seq_run0 (stp_move (.dat _) rfl) ?_
            refine seq_run0 (stp_move (.dat _) rfl) ?_
            obtain ⟨x23, h24, H⟩ := bnd H
            refine seq_run0 (t_byte tyU9 rfl rfl h24) ?_
            refine seq_run0 (stp_conv tyU5 tyU3 rfl) ?_
            refine seq_run0 (stp_dat (stp_or rfl rfl) rfl) ?_
            refine seq_run0 (stp_assign (.dat _) rfl) ?_
            exact ⟨(or_ .i64 (shl_ .i64 x6 8) (IntKind.wrap .i64 (x23.toNat : Int))), H, ⟨rfl, rfl, rfl, rfl, rfl, trivial⟩, ⟨rfl, trivial⟩⟩
          · replace H := iff_ h22 H
            refine awp_skip ?_
            exact ⟨(shl_ .i64 x6 8), H, ⟨rfl, rfl, rfl, rfl, rfl, trivial⟩, ⟨rfl, trivial⟩⟩
        · rintro x25 H
          replace H : token_Encode_J5 x25 = some q8 := H
          unfold token_Encode_J5 at H
          refine awp_plain hN rfl ?_
          refine seq_run0 (stp_add rfl rfl (by omega)) ?_
          refine seq_run0 (stp_move (.dat _) rfl) ?_
          exact ⟨_, backl H, ⟨rfl, rfl, rfl, rfl, rfl, trivial⟩, ⟨rfl, trivial⟩⟩
    · replace H := iff_ h5 H
      refine awp_exit ?_
      replace H := outl H hq4
      exact ⟨l3, H, ⟨rfl, trivial⟩, ⟨rfl, trivial⟩⟩
  · rintro out26 H
    replace H : token_Encode_J1 out26 = some r := H
    unfold token_Encode_J1 at H
    refine awp_seq ?_
    refine t_freeze 3 1 rfl rfl rfl ?_
    refine awp_plain hN rfl ?_
    refine seq_run0 (stp_move (.dat _) rfl) ?_
    refine seq_run0 (stp_convB (C := C_uint8) tyU81 tyU5 tyU9 (fun _ => rfl) rfl) ?_
    refine seq_run0 (stp_assign (.dat _) rfl) ?_
    refine awp_ret ?_
    cases H
    exact ⟨trivial, .inl rfl, trivial⟩
theorem k_gatelaw2_signed  (r : (Bool)) (H : m_gatelaw2_signed  = some r) : Fn Try.prog 14 [] (resOf [vbool r]) := by
  refine ⟨by kernel_rfl, pure_of (us := [vbool r]) Try.func14 rfl rfl rfl rfl fun X hN => ?_⟩
  unfold m_gatelaw2_signed at H
  refine awp_seq ?_
  refine awp_plain hN rfl ?_
  refine seq_run0 (stp_assign (.dat _) rfl) ?_
  refine awp_seq ?_
  refine awp_plain hN rfl ?_
  obtain ⟨r1, h2, H⟩ := bnd H
  refine seq_run0 (stp_call (k_token_Encode [97, 98] r1 h2) ⟨.inl rfl, trivial⟩) ?_
  refine seq_run0 (stp_seql rfl rfl) ?_
  refine seq_run0 (stp_assign (.dat _) rfl) ?_
  refine awp_ret ?_
  cases H
  exact ⟨trivial, .inl rfl, trivial⟩
end Go.Proofs.Ytpeeeanmfmhlgaa
