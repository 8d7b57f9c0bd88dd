/- Walks along the models. Printed by a program. -/
import Derived.Test.YtmcegaabopcmfaaTw2
namespace Go.Proofs.Ytmcegaabopcmfaa
open Go.RowKit
set_option linter.unusedVariables false
set_option maxRecDepth 20000
theorem k_gatemake_Stream_RightBudget (s1 : S_gatemake_Stream) (r : (S_api_Budget × S_gatemake_Stream)) (H : m_gatemake_Stream_RightBudget s1 = some r) : Imp Try.prog 108 25 (C_gatemake_Stream s1) [] (resOf [vagg (C_api_Budget r.1)]) (C_gatemake_Stream r.2) := by
  refine imp_of (us := [vagg (C_api_Budget r.1)]) (cs' := (C_gatemake_Stream r.2)) (by kernel_rfl) Try.func108 rfl rfl rfl rfl fun X bl hN => ?_
  unfold m_gatemake_Stream_RightBudget at H
  refine awp_seq ?_
  refine awp_plain hN rfl ?_
  refine seq_run2 (stp_alloc 1 tyZ50 rfl) rfl ?_
  refine awp_seq ?_
  refine awp_plain hN rfl ?_
  refine seq_run0 (stp_move (.ptr _ _) rfl) ?_
  refine seq_run0 (stp_dat (u' := vlst (List.map C_int [1, 10, 50, 100, 1000])) (stp_lit [[_], [_], [_], [_], [_]] tyL22 ⟨rfl, .inl ⟨_, rfl, rfl, rfl⟩, rfl, rfl, .inl ⟨_, rfl, rfl, rfl⟩, rfl, rfl, .inl ⟨_, rfl, rfl, rfl⟩, rfl, rfl, .inl ⟨_, rfl, rfl, rfl⟩, rfl, rfl, .inl ⟨_, rfl, rfl, rfl⟩, rfl, trivial⟩ rfl rfl) rfl) ?_
  obtain ⟨r2, h3, H⟩ := bnd H
  refine seq_run2 (stp_imp (k_gatemake_Stream_Pick s1 [1, 10, 50, 100, 1000] r2 h3) rfl ⟨.inl rfl, trivial⟩ rfl) rfl ?_
  refine seq_run0 (stp_move (.ptr _ _) rfl) ?_
  refine seq_run0 (stp_dat (u' := vlst (List.map C_int [0, 1, 2, 5])) (stp_lit [[_], [_], [_], [_]] tyL22 ⟨rfl, .inl ⟨_, rfl, rfl, rfl⟩, rfl, rfl, .inl ⟨_, rfl, rfl, rfl⟩, rfl, rfl, .inl ⟨_, rfl, rfl, rfl⟩, rfl, rfl, .inl ⟨_, rfl, rfl, rfl⟩, rfl, trivial⟩ rfl rfl) rfl) ?_
  obtain ⟨r4, h5, H⟩ := bnd H
  refine seq_run2 (stp_imp (k_gatemake_Stream_Pick r2.2 [0, 1, 2, 5] r4 h5) rfl ⟨.inl rfl, trivial⟩ rfl) rfl ?_
  refine seq_run0 (stp_move (.ptr _ _) rfl) ?_
  refine seq_run0 (stp_dat (u' := vlst (List.map C_int [0, 100, 333, 500, 1000])) (stp_lit [[_], [_], [_], [_], [_]] tyL22 ⟨rfl, .inl ⟨_, rfl, rfl, rfl⟩, rfl, rfl, .inl ⟨_, rfl, rfl, rfl⟩, rfl, rfl, .inl ⟨_, rfl, rfl, rfl⟩, rfl, rfl, .inl ⟨_, rfl, rfl, rfl⟩, rfl, rfl, .inl ⟨_, rfl, rfl, rfl⟩, rfl, trivial⟩ rfl rfl) rfl) ?_
  obtain ⟨r6, h7, H⟩ := bnd H
  refine seq_run2 (stp_imp (k_gatemake_Stream_Pick r4.2 [0, 100, 333, 500, 1000] r6 h7) rfl ⟨.inl rfl, trivial⟩ rfl) rfl ?_
  refine seq_run0 (stp_dat (u' := vagg (C_api_Budget (S_api_Budget.mk r2.1 r4.1 r6.1))) (stp_build [(0, [vint r2.1]), (1, [vint r4.1]), (2, [vint r6.1])] tyZ50 tyP50 rfl ⟨rfl, .inl ⟨_, rfl, rfl, rfl⟩, rfl, rfl, .inl ⟨_, rfl, rfl, rfl⟩, rfl, rfl, .inl ⟨_, rfl, rfl, rfl⟩, rfl, trivial⟩) rfl) ?_
  refine seq_run2 (stp_storeW tyS50 rfl rfl rfl rfl) rfl ?_
  refine awp_ret ?_
  cases H
  exact ⟨trivial, ⟨⟨_, _, _, C_api_Budget (S_api_Budget.mk r2.1 r4.1 r6.1), rfl, rfl, rfl, rfl, tyS50⟩, trivial⟩, rfl⟩
theorem k_gatemake_Stream_Budget (s1 : S_gatemake_Stream) (r : (S_api_Budget × S_gatemake_Stream)) (H : m_gatemake_Stream_Budget s1 = some r) : Imp Try.prog 56 25 (C_gatemake_Stream s1) [] (resOf [vagg (C_api_Budget r.1)]) (C_gatemake_Stream r.2) := by
  refine imp_of (us := [vagg (C_api_Budget r.1)]) (cs' := (C_gatemake_Stream r.2)) (by kernel_rfl) Try.func56 rfl rfl rfl rfl fun X bl hN => ?_
  unfold m_gatemake_Stream_Budget at H
  refine awp_seq ?_
  refine awp_plain hN rfl ?_
  refine seq_run2 (stp_alloc 1 tyZ50 rfl) rfl ?_
  refine awp_seq ?_
  refine awp_plain hN rfl ?_
  refine seq_run0 (stp_move (.ptr _ _) rfl) ?_
  obtain ⟨r2, h3, H⟩ := bnd H
  refine seq_run2 (stp_imp (k_gatemake_Stream_RightBudget s1 r2 h3) rfl trivial rfl) rfl ?_
  refine seq_run2 (stp_alloc 2 tyZ50 rfl) rfl ?_
  refine seq_run2 (stp_storeW tyS50 rfl rfl rfl rfl) rfl ?_
  refine awp_joinE (ι := (List Int) × Int × Int × Int × Int) (fun i => [(2, .ptr 1 0), (3, .ptr 2 0)]) (fun i => [(0, .box (some bl) 25 [.dat (vlst (List.map C_int i.1)), .dat (vint i.2.1)]), (1, .box none 50 [.dat (vint 0), .dat (vint 0), .dat (vint 0)]), (2, .box none 50 [.dat (vint i.2.2.1), .dat (vint i.2.2.2.1), .dat (vint i.2.2.2.2)])]) (fun i => gatemake_Stream_Budget_J1 i.1 i.2.1 i.2.2.1 i.2.2.2.1 i.2.2.2.2 = some r) (fun i => rfl) ?_ ?_
  · skip
    refine awp_seq ?_
    refine awp_plain hN rfl ?_
    refine seq_run0 (stp_move (.ptr _ _) rfl) ?_
    obtain ⟨r4, h5, H⟩ := bnd H
    refine seq_run2 (stp_imp (k_gatemake_Stream_Flip r2.2 15 r4 h5) rfl ⟨.inl rfl, trivial⟩ rfl) rfl ?_
    refine awp_cond _ rfl (fun h6 => ?_) (fun h6 => ?_)
    · replace H := ift h6 H
      refine awp_plain hN rfl ?_
      refine seq_run0 (stp_move (.ptr _ _) rfl) ?_
      obtain ⟨r7, h8, H⟩ := bnd H
      refine seq_run2 (stp_imp (k_gatemake_Stream_Odd r4.2 1 3600000 r7 h8) rfl ⟨.inl rfl, .inl rfl, trivial⟩ rfl) rfl ?_
      refine seq_run0 (stp_move (.ptr _ _) rfl) ?_
      obtain ⟨r9, h10, H⟩ := bnd H
      refine seq_run2 (stp_imp (k_gatemake_Stream_Odd r7.2 0 300 r9 h10) rfl ⟨.inl rfl, .inl rfl, trivial⟩ rfl) rfl ?_
      refine seq_run0 (stp_move (.ptr _ _) rfl) ?_
      obtain ⟨r11, h12, H⟩ := bnd H
      refine seq_run2 (stp_imp (k_gatemake_Stream_Odd r9.2 0 1000 r11 h12) rfl ⟨.inl rfl, .inl rfl, trivial⟩ rfl) rfl ?_
      refine seq_run0 (stp_dat (u' := vagg (C_api_Budget (S_api_Budget.mk r7.1 r9.1 r11.1))) (stp_build [(0, [vint r7.1]), (1, [vint r9.1]), (2, [vint r11.1])] tyZ50 tyP50 rfl ⟨rfl, .inl ⟨_, rfl, rfl, rfl⟩, rfl, rfl, .inl ⟨_, rfl, rfl, rfl⟩, rfl, rfl, .inl ⟨_, rfl, rfl, rfl⟩, rfl, trivial⟩) rfl) ?_
      refine seq_run2 (stp_storeW tyS50 rfl rfl rfl rfl) rfl ?_
      exact ⟨(r11.2.L, r11.2.at_, r7.1, r9.1, r11.1), H, ⟨rfl, rfl, trivial⟩, ⟨rfl, rfl, rfl, trivial⟩⟩
    · replace H := iff_ h6 H
      refine awp_skip ?_
      exact ⟨(r4.2.L, r4.2.at_, r2.1.Window, r2.1.Least, r2.1.Part), H, ⟨rfl, rfl, trivial⟩, ⟨rfl, rfl, rfl, trivial⟩⟩
  · rintro ⟨c13, c14, c15, c16, c17⟩ H
    replace H : gatemake_Stream_Budget_J1 c13 c14 c15 c16 c17 = some r := H
    unfold gatemake_Stream_Budget_J1 at H
    refine awp_seq ?_
    refine awp_plain hN rfl ?_
    refine seq_run1 (stp_loadA tyS50 rfl rfl rfl) rfl ?_
    refine seq_run2 (stp_storeW tyS50 rfl rfl rfl rfl) rfl ?_
    refine awp_ret ?_
    cases H
    exact ⟨trivial, ⟨⟨_, _, _, C_api_Budget (S_api_Budget.mk c15 c16 c17), rfl, rfl, rfl, rfl, tyS50⟩, trivial⟩, rfl⟩
theorem k_gatemake_Stream_Times (s1 : S_gatemake_Stream) (most2 : Int) (r : ((List Int) × S_gatemake_Stream)) (H : m_gatemake_Stream_Times s1 most2 = some r) : Imp Try.prog 57 25 (C_gatemake_Stream s1) [vint most2] (resOf [vlst (List.map C_int r.1)]) (C_gatemake_Stream r.2) := by
  refine imp_of (us := [vlst (List.map C_int r.1)]) (cs' := (C_gatemake_Stream r.2)) (by kernel_rfl) Try.func57 rfl rfl rfl rfl fun X bl hN => ?_
  unfold m_gatemake_Stream_Times at H
  refine awp_seq ?_
  refine awp_plain hN rfl ?_
  refine seq_run0 (stp_assign (.dat _) rfl) ?_
  refine awp_seq ?_
  refine awp_plain hN rfl ?_
  refine seq_run0 (stp_assign (.dat _) rfl) ?_
  refine awp_seq ?_
  refine awp_seq ?_
  refine awp_plain hN rfl ?_
  refine seq_run0 (stp_move (.ptr _ _) rfl) ?_
  refine seq_run0 (stp_move (.dat _) rfl) ?_
  obtain ⟨r3, h4, H⟩ := bnd H
  refine seq_run2 (stp_imp (k_gatemake_Stream_Range s1 0 most2 r3 h4) rfl ⟨.inl rfl, .inl rfl, trivial⟩ rfl) rfl ?_
  refine seq_run0 (stp_move (.dat _) rfl) ?_
  refine awp_block ?_
  refine awp_nilrow 5 1 3 1 rfl rfl rfl ?_
  obtain ⟨h10, H⟩ := gif H
  refine awp_rng (fun (k8 : Nat) (s : (List Int) × Int × (List Int)) => [(0, .ptr 0 0), (5, .row 1 s.2.2.length), (8, .dat (vint r3.1)), (9, .dat (vint (k8 : Int)))]) (fun (k8 : Nat) (s : (List Int) × Int × (List Int)) => [(0, .box (some bl) 25 [.dat (vlst (List.map C_int s.1)), .dat (vint s.2.1)]), (1, .row 3 1 (List.map C_int s.2.2))]) (r3.2.L, r3.2.at_, []) H ⟨rfl, congrArg (Slot.row 1) (by simp), rfl, rfl, trivial⟩ ⟨rfl, rfl, trivial⟩ (fun _ _ => rfl) ?_ ?_
  · rintro ⟨c5, c6, l7⟩ H
    replace H : gatemake_Stream_Times_E1 c5 c6 l7 = some r := H
    unfold gatemake_Stream_Times_E1 at H
    refine awp_seq ?_
    refine awp_plain hN rfl ?_
    refine seq_run0 (stp_lss rfl rfl) ?_
    refine awp_seq ?_
    refine awp_cond _ rfl (fun h => (lt_tI h).elim) (fun h => ?_)
    refine awp_exit ?_
    refine awp_joinE (ι := (List Int) × (List Int) × Int) (fun i => [(5, .row 1 i.1.length)]) (fun i => [(0, .box (some bl) 25 [.dat (vlst (List.map C_int i.2.1)), .dat (vint i.2.2)]), (1, .row 3 1 (List.map C_int i.1))]) (fun i => gatemake_Stream_Times_J2 i.1 i.2.1 i.2.2 = some r) (fun i => rfl) ?_ ?_
    · skip
      refine awp_joinE (ι := Bool × (List Int) × Int) (fun i => [(0, .ptr 0 0), (5, .row 1 l7.length), (24, .dat (vbool i.1))]) (fun i => [(0, .box (some bl) 25 [.dat (vlst (List.map C_int i.2.1)), .dat (vint i.2.2)]), (1, .row 3 1 (List.map C_int l7))]) (fun i => gatemake_Stream_Times_J3 l7 i.1 i.2.1 i.2.2 = some r) (fun i => rfl) ?_ ?_
      · skip
        refine awp_plain hN rfl ?_
        refine seq_run0 (stp_move (.row _ _) rfl) ?_
        refine seq_run1 (t_lenR tyU22 rfl rfl) rfl ?_
        refine seq_run0 (stp_gtr rfl rfl) ?_
        refine seq_run0 (stp_move (.dat _) rfl) ?_
        refine seq_split (j := 3) rfl rfl (fun h11 => ?_) (fun h11 => ?_) rfl
        · have h12 := un1 h11
          replace H := ift h12 H
          refine seq_g0 rfl rfl h11 (stp_move (.ptr _ _) rfl) ?_
          obtain ⟨r13, h14, H⟩ := bnd H
          refine seq_g2 rfl rfl h11 (stp_imp (k_gatemake_Stream_Flip (S_gatemake_Stream.mk c5 c6) 20 r13 h14) rfl ⟨.inl rfl, trivial⟩ rfl) rfl ?_
          refine seq_run0 (stp_pick_t rfl (bTT h12) rfl) ?_
          exact ⟨(r13.1, r13.2.L, r13.2.at_), H, ⟨rfl, rfl, rfl, trivial⟩, ⟨rfl, rfl, trivial⟩⟩
        · have h15 := un2 h11
          replace H := iff_ h15 H
          refine seq_skip rfl rfl h11 ?_
          refine seq_skip rfl rfl h11 ?_
          refine seq_run0 (stp_pick_f rfl (bFF h15) rfl) ?_
          exact ⟨(false, c5, c6), H, ⟨rfl, rfl, rfl, trivial⟩, ⟨rfl, rfl, trivial⟩⟩
      · rintro ⟨v16, c17, c18⟩ H
        replace H : gatemake_Stream_Times_J3 l7 v16 c17 c18 = some r := H
        unfold gatemake_Stream_Times_J3 at H
        refine awp_cond _ rfl (fun h19 => ?_) (fun h19 => ?_)
        · replace H := ift h19 H
          refine awp_plain hN rfl ?_
          refine seq_run0 (stp_move (.row _ _) rfl) ?_
          refine seq_run0 (stp_move (.ptr _ _) rfl) ?_
          obtain ⟨r20, h21, H⟩ := bnd H
          refine seq_run2 (stp_imp (k_gatemake_Stream_Odd (S_gatemake_Stream.mk c17 c18) 0 100 r20 h21) rfl ⟨.inl rfl, .inl rfl, trivial⟩ rfl) rfl ?_
          obtain ⟨x22, h23, H⟩ := bnd H
          refine seq_run1 (t_idxR tyE22 rfl rfl rfl h23) rfl ?_
          refine seq_run2 (t_storeR r20.1 tyS3 rfl rfl rfl rfl h23 rfl rfl) rfl ?_
          exact ⟨((l7.set 0 r20.1), r20.2.L, r20.2.at_), H, ⟨congrArg (Slot.row 1) (by simp), trivial⟩, ⟨rfl, rfl, trivial⟩⟩
        · replace H := iff_ h19 H
          refine awp_skip ?_
          exact ⟨(l7, c17, c18), H, ⟨rfl, trivial⟩, ⟨rfl, rfl, trivial⟩⟩
    · rintro ⟨out24, c25, c26⟩ H
      replace H : gatemake_Stream_Times_J2 out24 c25 c26 = some r := H
      unfold gatemake_Stream_Times_J2 at H
      refine awp_seq ?_
      refine awp_plain hN rfl ?_
      refine seq_run0 (stp_move (.row _ _) rfl) ?_
      refine seq_run0 (stp_assign (.row _ _) rfl) ?_
      refine awp_ret ?_
      cases H
      exact ⟨trivial, ⟨t_slotv rfl rfl, trivial⟩, rfl⟩
  · rintro k8 ⟨c5, c6, l7⟩ q9 h27 H hq9
    replace H : gatemake_Stream_Times_L1 k8 c5 c6 l7 = some q9 := H
    unfold gatemake_Stream_Times_L1 at H
    refine awp_seq ?_
    refine awp_plain hN rfl ?_
    refine seq_run0 (stp_lss rfl rfl) ?_
    refine awp_seq ?_
    refine awp_cond _ rfl (fun h => ?_) (fun h => (lt_fI h27 h).elim)
    refine awp_skip ?_
    refine awp_seq ?_
    refine awp_block ?_
    refine awp_plain hN rfl ?_
    refine seq_run0 (stp_move (.row _ _) rfl) ?_
    refine seq_run0 (stp_move (.ptr _ _) rfl) ?_
    refine seq_run0 (stp_dat (u' := vlst (List.map C_int [0, 1, 5, 10, 50, 99, 100, 101])) (stp_lit [[_], [_], [_], [_], [_], [_], [_], [_]] tyL22 ⟨rfl, .inl ⟨_, rfl, rfl, rfl⟩, rfl, rfl, .inl ⟨_, rfl, rfl, rfl⟩, rfl, rfl, .inl ⟨_, rfl, rfl, rfl⟩, rfl, rfl, .inl ⟨_, rfl, rfl, rfl⟩, rfl, rfl, .inl ⟨_, rfl, rfl, rfl⟩, rfl, rfl, .inl ⟨_, rfl, rfl, rfl⟩, rfl, rfl, .inl ⟨_, rfl, rfl, rfl⟩, rfl, rfl, .inl ⟨_, rfl, rfl, rfl⟩, rfl, trivial⟩ rfl rfl) rfl) ?_
    obtain ⟨r28, h29, H⟩ := bnd H
    refine seq_run2 (stp_imp (k_gatemake_Stream_Pick (S_gatemake_Stream.mk c5 c6) [0, 1, 5, 10, 50, 99, 100, 101] r28 h29) rfl ⟨.inl rfl, trivial⟩ rfl) rfl ?_
    refine seq_run0 (stp_dat (u' := vlst (List.map C_int [r28.1])) (stp_lit [[_]] tyL22 ⟨rfl, .inl ⟨_, rfl, rfl, rfl⟩, rfl, trivial⟩ rfl rfl) rfl) ?_
    obtain ⟨h30, H⟩ := gif H
    refine seq_run2 (t_app tyL22 (fun _ => rfl) rfl rfl rfl ⟨by simp, by simpa using h30⟩ rfl) rfl ?_
    refine seq_run0 (stp_assign (.row _ _) rfl) ?_
    refine awp_plain hN rfl ?_
    refine seq_run0 (stp_add rfl rfl (by omega)) ?_
    refine seq_run0 (stp_move (.dat _) rfl) ?_
    exact ⟨_, backl H, ⟨rfl, rfl, rfl, rfl, trivial⟩, ⟨rfl, rfl, trivial⟩⟩
theorem kr_slices_Clone_L_int_int_ (l r : List Int) (H : m_slices_Clone l = some r) : FnG Try.prog 109 [.dat (vlst (List.map C_int l))] [] (.row 900 r.length) [(900, .row 3 1 (List.map C_int r))] := by
  obtain ⟨hl, rfl⟩ := clone_some H
  refine fnG_of (by kernel_rfl) Try.func109 rfl rfl rfl rfl fun X A hN => ?_
  refine awp_nilcase 0 rfl (fun h0 => ?_) ?_
  · obtain rfl := List.map_eq_nil_iff.1 h0
    refine awp_seq ?_
    refine awp_plain hN rfl ?_
    refine seq_run0 (stp_assign (.dat _) rfl) ?_
    refine awp_seq ?_
    refine awp_seq ?_
    refine awp_plain hN rfl ?_
    refine seq_run0 (stp_move (.dat _) rfl) ?_
    refine seq_run0 (stp_eqnil_t tyU22 rfl) ?_
    refine awp_cond _ rfl (fun h => ?_) (fun h => by cases h)
    refine awp_seq ?_
    refine awp_plain hN rfl ?_
    refine seq_run0 (stp_assign (.dat _) rfl) ?_
    refine awp_nilrow 2 900 3 1 rfl rfl rfl ?_
    refine awp_ret ?_
    exact ⟨trivial, [(2, .row 900 0)], ⟨rfl, trivial⟩, ⟨rfl, trivial⟩, rfl, .inr ⟨2, rfl, rfl⟩⟩
  · refine awp_seq ?_
    refine awp_plain hN rfl ?_
    refine seq_run0 (stp_assign (.dat _) rfl) ?_
    refine awp_seq ?_
    refine awp_seq ?_
    refine awp_plain hN rfl ?_
    refine seq_run0 (stp_move (.dat _) rfl) ?_
    refine seq_run0 (stp_eqnil_f tyU22 rfl) ?_
    refine awp_cond _ rfl (fun h => by cases h) (fun h => ?_)
    refine awp_skip ?_
    refine awp_seq ?_
    refine awp_wk 0 (u' := vlst (List.map C_int l)) rfl wk_nn ?_
    refine awp_plain hN rfl ?_
    refine seq_run2 (stp_lit0 900 tyL22) rfl ?_
    refine seq_run0 (stp_move (.dat _) rfl) ?_
    refine seq_run2 (t_app2 (C := C_int) (xs := []) tyL22 (fun _ => rfl) rfl rfl rfl (by simpa using hl) rfl) rfl ?_
    refine seq_run0 (stp_assign (.row _ _) rfl) ?_
    refine awp_ret ?_
    exact ⟨trivial, [(2, .row 900 l.length)], ⟨rfl, trivial⟩, ⟨rfl, trivial⟩, rfl, .inr ⟨2, rfl, rfl⟩⟩
theorem k_slices_Clone_L_int_int_ (l r : List Int) (H : m_slices_Clone l = some r) : Fn Try.prog 109 [vlst (List.map C_int l)] (resOf [vlst (List.map C_int r)]) := by
  have h := kr_slices_Clone_L_int_int_ l r H
  rw [← List.length_map (f := C_int)] at h
  exact fn_of_fnG h
theorem kt_slices_Sort_L_int_int_ (l r : List Int) (H : m_slices_Sort_int l = some r) : FnG Try.prog 110 [.row 0 l.length] [(0, .rowA undef 3 1 (List.map C_int l))] (.dat (resOf [])) [(0, .rowA undef 3 1 (List.map C_int r))] := by
  obtain ⟨hl, hr⟩ := sort_some H
  refine fnG_turn (Value.int .i64) r l (sort_len H) (by kernel_rfl) (fun _ => rfl) (fun blk cap w hH hb => ?_) (fun h w => ?_)
  · rw [hr]; exact Try.slices_Sort_int blk 0 cap l w hH hb (by omega)
  · exact Try.slices_Sort_int_none none 0 w
theorem k_upstream_Percentile (l1 : (List Int)) (part2 : Int) (r : (Int × Int)) (H : m_upstream_Percentile l1 part2 = some r) : Fn Try.prog 58 [vlst (List.map C_int l1), vint part2] (resOf [vint r.1, vint r.2]) := by
  refine ⟨by kernel_rfl, pure_of (us := [vint r.1, vint r.2]) Try.func58 rfl rfl rfl rfl fun X hN => ?_⟩
  unfold m_upstream_Percentile at H
  refine awp_seq ?_
  refine awp_plain hN rfl ?_
  refine seq_run0 (stp_assign (.dat _) rfl) ?_
  refine seq_run0 (stp_assign (.dat _) rfl) ?_
  refine awp_seq ?_
  refine awp_block ?_
  refine awp_seq ?_
  refine awp_plain hN rfl ?_
  refine seq_run0 (stp_move (.dat _) rfl) ?_
  refine seq_run0 (t_len tyU22 rfl) ?_
  refine seq_run0 (stp_eql rfl rfl) ?_
  refine seq_run0 (stp_assign (.dat _) rfl) ?_
  refine awp_cond _ rfl (fun h3 => ?_) (fun h3 => ?_)
  · replace H := ift h3 H
    refine awp_seq ?_
    refine awp_plain hN rfl ?_
    refine seq_run0 (stp_assign (.dat _) rfl) ?_
    refine seq_run0 (stp_assign (.dat _) rfl) ?_
    refine awp_ret ?_
    cases H
    exact ⟨trivial, .inl rfl, .inl rfl, trivial⟩
  · replace H := iff_ h3 H
    refine awp_seq ?_
    refine awp_plain hN rfl ?_
    refine seq_run0 (stp_move (.dat _) rfl) ?_
    refine seq_run0 (t_len tyU22 rfl) ?_
    refine seq_run0 (stp_gtr rfl rfl) ?_
    refine seq_run0 (stp_assign (.dat _) rfl) ?_
    refine awp_cond _ rfl (fun h4 => ?_) (fun h4 => ?_)
    · replace H := ift h4 H
      refine awp_seq ?_
      refine awp_plain hN rfl ?_
      refine seq_run0 (stp_assign (.dat _) rfl) ?_
      refine seq_run0 (stp_assign (.dat _) rfl) ?_
      refine awp_ret ?_
      cases H
      exact ⟨trivial, .inl rfl, .inl rfl, trivial⟩
    · replace H := iff_ h4 H
      refine awp_seq ?_
      refine awp_plain hN rfl ?_
      refine seq_run0 (stp_move (.dat _) rfl) ?_
      obtain ⟨r5, h6, H⟩ := bnd H
      refine seq_run0 (stp_call (k_kit_Outside part2 1 1000 r5 h6) ⟨.inl rfl, .inl rfl, .inl rfl, trivial⟩) ?_
      refine seq_run0 (stp_assign (.dat _) rfl) ?_
      refine awp_cond _ rfl (fun h7 => ?_) (fun h7 => ?_)
      · replace H := ift h7 H
        refine awp_seq ?_
        refine awp_plain hN rfl ?_
        refine seq_run0 (stp_assign (.dat _) rfl) ?_
        refine seq_run0 (stp_assign (.dat _) rfl) ?_
        refine awp_ret ?_
        cases H
        exact ⟨trivial, .inl rfl, .inl rfl, trivial⟩
      · replace H := iff_ h7 H
        refine awp_skip ?_
        refine awp_seq ?_
        refine awp_plain hN rfl ?_
        refine seq_run0 (stp_move (.dat _) rfl) ?_
        obtain ⟨r8, h9, H⟩ := bnd H
        refine seq_callG (rn [(900, 1)]) [] [(900, _)] (kr_slices_Clone_L_int_int_ l1 r8 h9) ⟨rfl, trivial⟩ ⟨.inl (.inl rfl), trivial⟩ trivial rfl ?_
        refine seq_run0 (stp_assign (.row _ _) rfl) ?_
        refine awp_seq ?_
        refine awp_plain hN rfl ?_
        refine seq_run0 (stp_move (.row _ _) rfl) ?_
        obtain ⟨r10, h11, H⟩ := bnd H
        refine seq_callG (rn [(0, 1)]) [(0, _, _, some _)] [] (kt_slices_Sort_L_int_int_ r8 r10 h11) ⟨rfl, trivial⟩ ⟨.inl (.inl rfl), trivial⟩ ⟨⟨⟨rfl, rfl, rfl⟩, by simp [stayP, sort_len h11]⟩, trivial⟩ rfl ?_
        refine awp_seq ?_
        refine awp_plain hN rfl ?_
        refine seq_run0 (stp_move (.row _ _) rfl) ?_
        refine seq_run0 (stp_move (.dat _) rfl) ?_
        refine seq_run0 (stp_move (.row _ _) rfl) ?_
        refine seq_run1 (t_lenR tyU22 rfl (sort_len h11).symm) rfl ?_
        refine seq_run0 (stp_wrap _ rfl rfl (.inr (.inr ⟨rfl, rfl⟩))) ?_
        refine seq_run0 (stp_wrap _ rfl rfl (.inl ⟨rfl, rfl⟩)) ?_
        refine seq_run0 (stp_wrap _ rfl rfl (.inr (.inl ⟨rfl, rfl⟩))) ?_
        obtain ⟨h12, H⟩ := gif H
        refine seq_run0 (stp_quo rfl rfl h12.1 h12.2) ?_
        refine seq_run0 (stp_wrap _ rfl rfl (.inr (.inl ⟨rfl, rfl⟩))) ?_
        obtain ⟨x13, h14, H⟩ := bnd H
        refine seq_run1 (t_idxRI tyE22 rfl (sort_len h11).symm rfl h14) rfl ?_
        refine seq_run1 (t_loadR1 tyS3 rfl (sort_len h11).symm (at_some h14).2 rfl) rfl ?_
        refine seq_run0 (stp_assign (.dat _) rfl) ?_
        refine seq_run0 (stp_assign (.dat _) rfl) ?_
        refine awp_ret ?_
        cases H
        exact ⟨trivial, .inl rfl, .inl rfl, trivial⟩
theorem k_upstream_doubled (n1 : Int) (times2 : Int) (most3 : Int) (r : (Int)) (H : m_upstream_doubled n1 times2 most3 = some r) : Fn Try.prog 111 [vint n1, vint times2, vint most3] (resOf [vint r]) := by
  refine ⟨by kernel_rfl, pure_of (us := [vint r]) Try.func111 rfl rfl rfl rfl fun X hN => ?_⟩
  unfold m_upstream_doubled at H
  refine awp_seq ?_
  refine awp_plain hN rfl ?_
  refine seq_run0 (stp_assign (.dat _) rfl) ?_
  refine awp_joinE (ι := Int) (fun i => [(0, .dat (vint i)), (2, .dat (vint most3))]) (fun i => []) (fun i => upstream_doubled_J1 most3 i = some r) (fun i => rfl) ?_ ?_
  · skip
    refine awp_seq ?_
    refine awp_plain hN rfl ?_
    refine seq_run0 (stp_move (.dat _) rfl) ?_
    refine seq_run0 (stp_move (.dat _) rfl) ?_
    refine awp_block ?_
    obtain ⟨h7, H⟩ := gif H
    refine awp_rng (fun (k5 : Nat) (s : Int) => [(0, .dat (vint s)), (2, .dat (vint most3)), (7, .dat (vint times2)), (8, .dat (vint (k5 : Int)))]) (fun (k5 : Nat) (s : Int) => []) n1 H ⟨rfl, rfl, rfl, rfl, trivial⟩ trivial (fun _ _ => rfl) ?_ ?_
    · rintro n4 H
      replace H : upstream_doubled_E2 most3 n4 = some r := H
      unfold upstream_doubled_E2 at H
      refine awp_seq ?_
      refine awp_plain hN rfl ?_
      refine seq_run0 (stp_lss rfl rfl) ?_
      refine awp_seq ?_
      refine awp_cond _ rfl (fun h => (lt_tI h).elim) (fun h => ?_)
      refine awp_exit ?_
      exact ⟨n4, H, ⟨rfl, rfl, trivial⟩, trivial⟩
    · rintro k5 n4 q6 h8 H hq6
      replace H : upstream_doubled_L2 most3 k5 n4 = some q6 := H
      unfold upstream_doubled_L2 at H
      refine awp_seq ?_
      refine awp_plain hN rfl ?_
      refine seq_run0 (stp_lss rfl rfl) ?_
      refine awp_seq ?_
      refine awp_cond _ rfl (fun h => ?_) (fun h => (lt_fI h8 h).elim)
      refine awp_skip ?_
      refine awp_seq ?_
      refine awp_block ?_
      refine awp_seq ?_
      refine awp_seq ?_
      refine awp_plain hN rfl ?_
      refine seq_run0 (stp_move (.dat _) rfl) ?_
      refine seq_run0 (stp_move (.dat _) rfl) ?_
      refine seq_run0 (stp_geq rfl rfl) ?_
      refine awp_cond _ rfl (fun h9 => ?_) (fun h9 => ?_)
      · replace H := ift h9 H
        refine awp_exit ?_
        replace H := outl H hq6
        exact ⟨n4, H, ⟨rfl, rfl, trivial⟩, trivial⟩
      · replace H := iff_ h9 H
        refine awp_skip ?_
        refine awp_plain hN rfl ?_
        refine seq_run0 (stp_move (.dat _) rfl) ?_
        refine seq_run0 (stp_wrap _ rfl rfl (.inr (.inr ⟨rfl, rfl⟩))) ?_
        refine seq_run0 (stp_assign (.dat _) rfl) ?_
        refine awp_plain hN rfl ?_
        refine seq_run0 (stp_add rfl rfl (by omega)) ?_
        refine seq_run0 (stp_move (.dat _) rfl) ?_
        exact ⟨_, backl H, ⟨rfl, rfl, rfl, rfl, trivial⟩, trivial⟩
  · rintro n10 H
    replace H : upstream_doubled_J1 most3 n10 = some r := H
    unfold upstream_doubled_J1 at H
    refine awp_seq ?_
    refine awp_plain hN rfl ?_
    refine seq_run0 (stp_move (.dat _) rfl) ?_
    refine seq_run0 (stp_move (.dat _) rfl) ?_
    refine seq_run0 (stp_min rfl rfl) ?_
    refine seq_run0 (stp_assign (.dat _) rfl) ?_
    refine awp_ret ?_
    cases H
    exact ⟨trivial, .inl rfl, trivial⟩
theorem k_upstream_Backoff (wait1 : Int) (most2 : Int) (v3 : Int) (r : (Int × Int)) (H : m_upstream_Backoff wait1 most2 v3 = some r) : Fn Try.prog 59 [vint wait1, vint most2, vint v3] (resOf [vint r.1, vint r.2]) := by
  refine ⟨by kernel_rfl, pure_of (us := [vint r.1, vint r.2]) Try.func59 rfl rfl rfl rfl fun X hN => ?_⟩
  unfold m_upstream_Backoff at H
  refine awp_seq ?_
  refine awp_plain hN rfl ?_
  refine seq_run0 (stp_assign (.dat _) rfl) ?_
  refine seq_run0 (stp_assign (.dat _) rfl) ?_
  refine awp_seq ?_
  refine awp_joinE (ι := Bool) (fun i => [(0, .dat (vint wait1)), (1, .dat (vint most2)), (2, .dat (vint v3)), (18, .dat (vbool i))]) (fun i => []) (fun i => upstream_Backoff_J1 wait1 most2 v3 i = some r) (fun i => rfl) ?_ ?_
  · skip
    refine awp_plain hN rfl ?_
    refine seq_run0 (stp_move (.dat _) rfl) ?_
    refine seq_run0 (stp_move (.dat _) rfl) ?_
    obtain ⟨r4, h5, H⟩ := bnd H
    refine seq_run0 (stp_call (k_kit_Outside wait1 0 most2 r4 h5) ⟨.inl rfl, .inl rfl, .inl rfl, trivial⟩) ?_
    refine seq_run0 (stp_move (.dat _) rfl) ?_
    refine seq_split (j := 3) rfl rfl (fun h6 => ?_) (fun h6 => ?_) rfl
    · have h7 := un3 h6
      replace H := iff_ h7 H
      refine seq_g0 rfl rfl h6 (stp_move (.dat _) rfl) ?_
      refine seq_g0 rfl rfl h6 (stp_gtr rfl rfl) ?_
      refine seq_run0 (stp_pick_f rfl (bFF h7) rfl) ?_
      refine seq_run0 (stp_move (.dat _) rfl) ?_
      refine seq_split (j := 7) rfl rfl (fun h8 => ?_) (fun h8 => ?_) rfl
      · have h9 := un3 h8
        replace H := iff_ h9 H
        refine seq_g0 rfl rfl h8 (stp_move (.dat _) rfl) ?_
        obtain ⟨r10, h11, H⟩ := bnd H
        refine seq_g0 rfl rfl h8 (stp_call (k_kit_Outside v3 2 100 r10 h11) ⟨.inl rfl, .inl rfl, .inl rfl, trivial⟩) ?_
        refine seq_run0 (stp_pick_f rfl (bFF h9) rfl) ?_
        exact ⟨r10, H, ⟨rfl, rfl, rfl, rfl, trivial⟩, trivial⟩
      · have h12 := un4 h8
        replace H := ift h12 H
        refine seq_skip rfl rfl h8 ?_
        refine seq_skip rfl rfl h8 ?_
        refine seq_run0 (stp_pick_t rfl (bTT h12) rfl) ?_
        exact ⟨true, H, ⟨rfl, rfl, rfl, rfl, trivial⟩, trivial⟩
    · have h13 := un4 h6
      replace H := ift h13 H
      refine seq_skip rfl rfl h6 ?_
      refine seq_skip rfl rfl h6 ?_
      refine seq_run0 (stp_pick_t rfl (bTT h13) rfl) ?_
      refine seq_run0 (stp_move (.dat _) rfl) ?_
      refine seq_skip rfl rfl rfl ?_
      refine seq_skip rfl rfl rfl ?_
      refine seq_run0 (stp_pick_t rfl rfl rfl) ?_
      exact ⟨true, H, ⟨rfl, rfl, rfl, rfl, trivial⟩, trivial⟩
  · rintro v14 H
    replace H : upstream_Backoff_J1 wait1 most2 v3 v14 = some r := H
    unfold upstream_Backoff_J1 at H
    refine awp_cond _ rfl (fun h15 => ?_) (fun h15 => ?_)
    · replace H := ift h15 H
      refine awp_seq ?_
      refine awp_plain hN rfl ?_
      refine seq_run0 (stp_assign (.dat _) rfl) ?_
      refine seq_run0 (stp_assign (.dat _) rfl) ?_
      refine awp_ret ?_
      cases H
      exact ⟨trivial, .inl rfl, .inl rfl, trivial⟩
    · replace H := iff_ h15 H
      refine awp_skip ?_
      refine awp_seq ?_
      refine awp_plain hN rfl ?_
      refine seq_run0 (stp_move (.dat _) rfl) ?_
      refine seq_run0 (stp_move (.dat _) rfl) ?_
      refine seq_run0 (stp_wrap _ rfl rfl (.inr (.inl ⟨rfl, rfl⟩))) ?_
      refine seq_run0 (stp_move (.dat _) rfl) ?_
      obtain ⟨r16, h17, H⟩ := bnd H
      refine seq_run0 (stp_call (k_upstream_doubled wait1 (wr (v3 - 2)) most2 r16 h17) ⟨.inl rfl, .inl rfl, .inl rfl, trivial⟩) ?_
      refine seq_run0 (stp_assign (.dat _) rfl) ?_
      refine seq_run0 (stp_assign (.dat _) rfl) ?_
      refine awp_ret ?_
      cases H
      exact ⟨trivial, .inl rfl, .inl rfl, trivial⟩
theorem k_upstream_CheckBudget (b1 : S_api_Budget) (r : (Int)) (H : m_upstream_CheckBudget b1 = some r) : Fn Try.prog 64 [vagg (C_api_Budget b1)] (resOf [vint r]) := by
  refine ⟨by kernel_rfl, pure_of (us := [vint r]) Try.func64 rfl rfl rfl rfl fun X hN => ?_⟩
  unfold m_upstream_CheckBudget at H
  refine awp_seq ?_
  refine awp_plain hN rfl ?_
  refine seq_run2 (stp_boxA 1 rfl) rfl ?_
  refine seq_run0 (stp_assign (.dat _) rfl) ?_
  refine awp_seq ?_
  refine awp_joinE (ι := Bool) (fun i => [(15, .dat (vbool i))]) (fun i => []) (fun i => upstream_CheckBudget_J1 i = some r) (fun i => rfl) ?_ ?_
  · skip
    refine awp_plain hN rfl ?_
    refine seq_run0 (stp_fldP tyF50_0 rfl) ?_
    refine seq_run1 (stp_load1 tyS3 rfl rfl) rfl ?_
    obtain ⟨r2, h3, H⟩ := bnd H
    refine seq_run0 (stp_call (k_kit_Outside b1.Window 1 3600000 r2 h3) ⟨.inl rfl, .inl rfl, .inl rfl, trivial⟩) ?_
    refine seq_run0 (stp_move (.dat _) rfl) ?_
    refine seq_split (j := 3) rfl rfl (fun h4 => ?_) (fun h4 => ?_) rfl
    · have h5 := un3 h4
      replace H := iff_ h5 H
      refine seq_g0 rfl rfl h4 (stp_fldP tyF50_1 rfl) ?_
      refine seq_g1 rfl rfl h4 (stp_load1 tyS3 rfl rfl) rfl ?_
      obtain ⟨r6, h7, H⟩ := bnd H
      refine seq_g0 rfl rfl h4 (stp_call (k_kit_Outside b1.Least 0 300 r6 h7) ⟨.inl rfl, .inl rfl, .inl rfl, trivial⟩) ?_
      refine seq_run0 (stp_pick_f rfl (bFF h5) rfl) ?_
      refine seq_run0 (stp_move (.dat _) rfl) ?_
      refine seq_split (j := 8) rfl rfl (fun h8 => ?_) (fun h8 => ?_) rfl
      · have h9 := un3 h8
        replace H := iff_ h9 H
        refine seq_g0 rfl rfl h8 (stp_fldP tyF50_2 rfl) ?_
        refine seq_g1 rfl rfl h8 (stp_load1 tyS3 rfl rfl) rfl ?_
        obtain ⟨r10, h11, H⟩ := bnd H
        refine seq_g0 rfl rfl h8 (stp_call (k_kit_Outside b1.Part 0 1000 r10 h11) ⟨.inl rfl, .inl rfl, .inl rfl, trivial⟩) ?_
        refine seq_run0 (stp_pick_f rfl (bFF h9) rfl) ?_
        exact ⟨r10, H, ⟨rfl, trivial⟩, trivial⟩
      · have h12 := un4 h8
        replace H := ift h12 H
        refine seq_skip rfl rfl h8 ?_
        refine seq_skip rfl rfl h8 ?_
        refine seq_skip rfl rfl h8 ?_
        refine seq_run0 (stp_pick_t rfl (bTT h12) rfl) ?_
        exact ⟨true, H, ⟨rfl, trivial⟩, trivial⟩
    · have h13 := un4 h4
      replace H := ift h13 H
      refine seq_skip rfl rfl h4 ?_
      refine seq_skip rfl rfl h4 ?_
      refine seq_skip rfl rfl h4 ?_
      refine seq_run0 (stp_pick_t rfl (bTT h13) rfl) ?_
      refine seq_run0 (stp_move (.dat _) rfl) ?_
      refine seq_skip rfl rfl rfl ?_
      refine seq_skip rfl rfl rfl ?_
      refine seq_skip rfl rfl rfl ?_
      refine seq_run0 (stp_pick_t rfl rfl rfl) ?_
      exact ⟨true, H, ⟨rfl, trivial⟩, trivial⟩
  · rintro v14 H
    replace H : upstream_CheckBudget_J1 v14 = some r := H
    unfold upstream_CheckBudget_J1 at H
    refine awp_cond _ rfl (fun h15 => ?_) (fun h15 => ?_)
    · replace H := ift h15 H
      refine awp_seq ?_
      refine awp_plain hN rfl ?_
      refine seq_run0 (stp_assign (.dat _) rfl) ?_
      refine awp_ret ?_
      cases H
      exact ⟨trivial, .inl rfl, trivial⟩
    · replace H := iff_ h15 H
      refine awp_skip ?_
      refine awp_seq ?_
      refine awp_plain hN rfl ?_
      refine seq_run0 (stp_assign (.dat _) rfl) ?_
      refine awp_ret ?_
      cases H
      exact ⟨trivial, .inl rfl, trivial⟩
theorem kr_slices_Grow_L_int_int_ (n : Int) (r : List Int) (H : m_slices_Grow n = some r) : FnG Try.prog 113 [.dat vnil, .dat (vint n)] [] (.row 900 r.length) [(900, .row 3 1 (List.map C_int r))] := by
  obtain ⟨h0, h1, rfl⟩ := grow_some H
  exact fnG_grow Try.grow113 rfl rfl tyL22 rfl (by kernel_rfl) n h0 h1
theorem k_slices_Grow_L_int_int_ (n : Int) (r : List Int) (H : m_slices_Grow n = some r) : Fn Try.prog 113 [vnil, vint n] (resOf [vlst (List.map C_int r)]) := by
  have h := kr_slices_Grow_L_int_int_ n r H
  rw [← List.length_map (f := C_int)] at h
  exact fn_of_fnG h
theorem k_slices_Concat_L_int_int_ (slices1 : (List (List Int))) (r : ((List Int))) (H : m_slices_Concat_L_int_int_ slices1 = some r) : Fn Try.prog 65 [vlst (List.map C_L_int slices1)] (resOf [vlst (List.map C_int r)]) := by
  refine ⟨by kernel_rfl, pure_of (us := [vlst (List.map C_int r)]) Try.func65 rfl rfl rfl rfl fun X hN => ?_⟩
  unfold m_slices_Concat_L_int_int_ at H
  refine awp_seq ?_
  refine awp_plain hN rfl ?_
  refine seq_run0 (stp_assign (.dat _) rfl) ?_
  refine awp_seq ?_
  refine awp_plain hN rfl ?_
  refine seq_run0 (stp_assign (.dat _) rfl) ?_
  refine awp_seq ?_
  refine awp_seq ?_
  refine awp_plain hN rfl ?_
  refine seq_run0 (stp_move (.dat _) rfl) ?_
  refine seq_run0 (t_len tyU160 rfl) ?_
  refine seq_run0 (stp_move (.dat _) rfl) ?_
  refine awp_block ?_
  obtain ⟨h5, H⟩ := gif H
  refine awp_forL (fun (k3 : Nat) (s : Int) => [(0, .dat (vlst (List.map C_L_int slices1))), (3, .dat (vint s)), (9, .dat (vlst (List.map C_L_int slices1))), (10, .dat (vint (slices1.length : Int))), (11, .dat (vint (k3 : Int)))]) (fun (k3 : Nat) (s : Int) => []) 0 H ⟨rfl, rfl, rfl, rfl, rfl, trivial⟩ trivial (fun _ _ => rfl) ?_ ?_
  · rintro size2 H
    replace H : slices_Concat_L_int_int__E1 slices1 size2 = some r := H
    unfold slices_Concat_L_int_int__E1 at H
    refine awp_seq ?_
    refine awp_plain hN rfl ?_
    refine seq_run0 (stp_lss rfl rfl) ?_
    refine awp_seq ?_
    refine awp_cond _ rfl (fun h => (lt_t h).elim) (fun h => ?_)
    refine awp_exit ?_
    refine awp_seq ?_
    refine awp_plain hN rfl ?_
    refine seq_run0 (stp_move (.dat _) rfl) ?_
    obtain ⟨r7, h8, H⟩ := bnd H
    refine seq_callG (rn [(900, 1)]) [] [(900, _)] (kr_slices_Grow_L_int_int_ size2 r7 h8) ⟨rfl, trivial⟩ ⟨.inl (.inl rfl), .inl (.inl rfl), trivial⟩ trivial rfl ?_
    refine seq_run0 (stp_assign (.row _ _) rfl) ?_
    refine awp_seq ?_
    refine awp_seq ?_
    refine awp_plain hN rfl ?_
    refine seq_run0 (stp_move (.dat _) rfl) ?_
    refine seq_run0 (t_len tyU160 rfl) ?_
    refine seq_run0 (stp_move (.dat _) rfl) ?_
    refine awp_block ?_
    obtain ⟨h12, H⟩ := gif H
    refine awp_forL (fun (k10 : Nat) (s : (List Int)) => [(6, .row 1 s.length), (25, .dat (vlst (List.map C_L_int slices1))), (26, .dat (vint (slices1.length : Int))), (27, .dat (vint (k10 : Int)))]) (fun (k10 : Nat) (s : (List Int)) => [(1, .row 3 1 (List.map C_int s))]) r7 H ⟨rfl, rfl, rfl, rfl, trivial⟩ ⟨rfl, trivial⟩ (fun _ _ => rfl) ?_ ?_
    · rintro l9 H
      replace H : slices_Concat_L_int_int__E2 l9 = some r := H
      unfold slices_Concat_L_int_int__E2 at H
      refine awp_seq ?_
      refine awp_plain hN rfl ?_
      refine seq_run0 (stp_lss rfl rfl) ?_
      refine awp_seq ?_
      refine awp_cond _ rfl (fun h => (lt_t h).elim) (fun h => ?_)
      refine awp_exit ?_
      refine awp_seq ?_
      refine awp_plain hN rfl ?_
      refine seq_run0 (stp_move (.row _ _) rfl) ?_
      refine seq_run0 (stp_assign (.row _ _) rfl) ?_
      refine awp_ret ?_
      cases H
      exact ⟨trivial, t_slotv rfl rfl, trivial⟩
    · rintro k10 x13 l9 q11 h14 h15 H hq11
      replace H : slices_Concat_L_int_int__L2 k10 x13 l9 = some q11 := H
      unfold slices_Concat_L_int_int__L2 at H
      refine awp_seq ?_
      refine awp_plain hN rfl ?_
      refine seq_run0 (stp_lss rfl rfl) ?_
      refine awp_seq ?_
      refine awp_cond _ rfl (fun h => ?_) (fun h => (lt_f h14 h).elim)
      refine awp_skip ?_
      refine awp_seq ?_
      refine awp_block ?_
      refine awp_seq ?_
      refine awp_plain hN rfl ?_
      refine seq_run0 (t_idx tyE160 (fun _ => rfl) rfl rfl h15) ?_
      refine seq_run0 (stp_loadE1 tyS22 rfl (map_at h15) rfl) ?_
      refine seq_run0 (stp_assign (.dat _) rfl) ?_
      refine awp_plain hN rfl ?_
      refine seq_run0 (stp_move (.row _ _) rfl) ?_
      refine seq_run0 (stp_move (.dat _) rfl) ?_
      obtain ⟨h16, H⟩ := gif H
      refine seq_run2 (t_app2 tyL22 (fun _ => rfl) rfl rfl rfl h16 rfl) rfl ?_
      refine seq_run0 (stp_assign (.row _ _) rfl) ?_
      refine awp_plain hN rfl ?_
      refine seq_run0 (stp_add rfl rfl (by omega)) ?_
      refine seq_run0 (stp_move (.dat _) rfl) ?_
      exact ⟨_, backl H, ⟨rfl, rfl, rfl, rfl, trivial⟩, ⟨rfl, trivial⟩⟩
  · rintro k3 x6 size2 q4 h17 h18 H hq4
    replace H : slices_Concat_L_int_int__L1 k3 x6 size2 = some q4 := H
    unfold slices_Concat_L_int_int__L1 at H
    refine awp_seq ?_
    refine awp_plain hN rfl ?_
    refine seq_run0 (stp_lss rfl rfl) ?_
    refine awp_seq ?_
    refine awp_cond _ rfl (fun h => ?_) (fun h => (lt_f h17 h).elim)
    refine awp_skip ?_
    refine awp_seq ?_
    refine awp_block ?_
    refine awp_seq ?_
    refine awp_plain hN rfl ?_
    refine seq_run0 (t_idx tyE160 (fun _ => rfl) rfl rfl h18) ?_
    refine seq_run0 (stp_loadE1 tyS22 rfl (map_at h18) rfl) ?_
    refine seq_run0 (stp_assign (.dat _) rfl) ?_
    refine awp_seq ?_
    refine awp_plain hN rfl ?_
    refine seq_run0 (stp_move (.dat _) rfl) ?_
    refine seq_run0 (stp_move (.dat _) rfl) ?_
    refine seq_run0 (t_len tyU22 rfl) ?_
    refine seq_run0 (stp_wrap _ rfl rfl (.inl ⟨rfl, rfl⟩)) ?_
    refine seq_run0 (stp_assign (.dat _) rfl) ?_
    refine awp_seq ?_
    refine awp_plain hN rfl ?_
    refine seq_run0 (stp_move (.dat _) rfl) ?_
    refine seq_run0 (stp_lss rfl rfl) ?_
    refine awp_cond _ rfl (fun h19 => ?_) (fun h19 => ?_)
    · replace H := ift h19 H
      cases H
    · replace H := iff_ h19 H
      refine awp_skip ?_
      refine awp_plain hN rfl ?_
      refine seq_run0 (stp_add rfl rfl (by omega)) ?_
      refine seq_run0 (stp_move (.dat _) rfl) ?_
      exact ⟨_, backl H, ⟨rfl, rfl, rfl, rfl, rfl, trivial⟩, trivial⟩
theorem kr_slices_Concat_L_int_int_ (slices1 : (List (List Int))) (r : ((List Int))) (H : m_slices_Concat_L_int_int_ slices1 = some r) : FnG Try.prog 65 [.dat (vlst (List.map C_L_int slices1))] [] (.row 1 r.length) [(1, .row 3 1 (List.map C_int r))] := by
  refine fnG_of (by kernel_rfl) Try.func65 rfl rfl rfl rfl fun X A hN => ?_
  unfold m_slices_Concat_L_int_int_ at H
  refine awp_seq ?_
  refine awp_plain hN rfl ?_
  refine seq_run0 (stp_assign (.dat _) rfl) ?_
  refine awp_seq ?_
  refine awp_plain hN rfl ?_
  refine seq_run0 (stp_assign (.dat _) rfl) ?_
  refine awp_seq ?_
  refine awp_seq ?_
  refine awp_plain hN rfl ?_
  refine seq_run0 (stp_move (.dat _) rfl) ?_
  refine seq_run0 (t_len tyU160 rfl) ?_
  refine seq_run0 (stp_move (.dat _) rfl) ?_
  refine awp_block ?_
  obtain ⟨h5, H⟩ := gif H
  refine awp_forL (fun (k3 : Nat) (s : Int) => [(0, .dat (vlst (List.map C_L_int slices1))), (3, .dat (vint s)), (9, .dat (vlst (List.map C_L_int slices1))), (10, .dat (vint (slices1.length : Int))), (11, .dat (vint (k3 : Int)))]) (fun (k3 : Nat) (s : Int) => []) 0 H ⟨rfl, rfl, rfl, rfl, rfl, trivial⟩ trivial (fun _ _ => rfl) ?_ ?_
  · rintro size2 H
    replace H : slices_Concat_L_int_int__E1 slices1 size2 = some r := H
    unfold slices_Concat_L_int_int__E1 at H
    refine awp_seq ?_
    refine awp_plain hN rfl ?_
    refine seq_run0 (stp_lss rfl rfl) ?_
    refine awp_seq ?_
    refine awp_cond _ rfl (fun h => (lt_t h).elim) (fun h => ?_)
    refine awp_exit ?_
    refine awp_seq ?_
    refine awp_plain hN rfl ?_
    refine seq_run0 (stp_move (.dat _) rfl) ?_
    obtain ⟨r7, h8, H⟩ := bnd H
    refine seq_callG (rn [(900, 1)]) [] [(900, _)] (kr_slices_Grow_L_int_int_ size2 r7 h8) ⟨rfl, trivial⟩ ⟨.inl (.inl rfl), .inl (.inl rfl), trivial⟩ trivial rfl ?_
    refine seq_run0 (stp_assign (.row _ _) rfl) ?_
    refine awp_seq ?_
    refine awp_seq ?_
    refine awp_plain hN rfl ?_
    refine seq_run0 (stp_move (.dat _) rfl) ?_
    refine seq_run0 (t_len tyU160 rfl) ?_
    refine seq_run0 (stp_move (.dat _) rfl) ?_
    refine awp_block ?_
    obtain ⟨h12, H⟩ := gif H
    refine awp_forL (fun (k10 : Nat) (s : (List Int)) => [(6, .row 1 s.length), (25, .dat (vlst (List.map C_L_int slices1))), (26, .dat (vint (slices1.length : Int))), (27, .dat (vint (k10 : Int)))]) (fun (k10 : Nat) (s : (List Int)) => [(1, .row 3 1 (List.map C_int s))]) r7 H ⟨rfl, rfl, rfl, rfl, trivial⟩ ⟨rfl, trivial⟩ (fun _ _ => rfl) ?_ ?_
    · rintro l9 H
      replace H : slices_Concat_L_int_int__E2 l9 = some r := H
      unfold slices_Concat_L_int_int__E2 at H
      refine awp_seq ?_
      refine awp_plain hN rfl ?_
      refine seq_run0 (stp_lss rfl rfl) ?_
      refine awp_seq ?_
      refine awp_cond _ rfl (fun h => (lt_t h).elim) (fun h => ?_)
      refine awp_exit ?_
      refine awp_seq ?_
      refine awp_plain hN rfl ?_
      refine seq_run0 (stp_move (.row _ _) rfl) ?_
      refine seq_run0 (stp_assign (.row _ _) rfl) ?_
      refine awp_ret ?_
      cases H
      exact ⟨trivial, [(2, .row 1 _)], ⟨rfl, trivial⟩, ⟨rfl, trivial⟩, rfl, .inr ⟨2, rfl, rfl⟩⟩
    · rintro k10 x13 l9 q11 h14 h15 H hq11
      replace H : slices_Concat_L_int_int__L2 k10 x13 l9 = some q11 := H
      unfold slices_Concat_L_int_int__L2 at H
      refine awp_seq ?_
      refine awp_plain hN rfl ?_
      refine seq_run0 (stp_lss rfl rfl) ?_
      refine awp_seq ?_
      refine awp_cond _ rfl (fun h => ?_) (fun h => (lt_f h14 h).elim)
      refine awp_skip ?_
      refine awp_seq ?_
      refine awp_block ?_
      refine awp_seq ?_
      refine awp_plain hN rfl ?_
      refine seq_run0 (t_idx tyE160 (fun _ => rfl) rfl rfl h15) ?_
      refine seq_run0 (stp_loadE1 tyS22 rfl (map_at h15) rfl) ?_
      refine seq_run0 (stp_assign (.dat _) rfl) ?_
      refine awp_plain hN rfl ?_
      refine seq_run0 (stp_move (.row _ _) rfl) ?_
      refine seq_run0 (stp_move (.dat _) rfl) ?_
      obtain ⟨h16, H⟩ := gif H
      refine seq_run2 (t_app2 tyL22 (fun _ => rfl) rfl rfl rfl h16 rfl) rfl ?_
      refine seq_run0 (stp_assign (.row _ _) rfl) ?_
      refine awp_plain hN rfl ?_
      refine seq_run0 (stp_add rfl rfl (by omega)) ?_
      refine seq_run0 (stp_move (.dat _) rfl) ?_
      exact ⟨_, backl H, ⟨rfl, rfl, rfl, rfl, trivial⟩, ⟨rfl, trivial⟩⟩
  · rintro k3 x6 size2 q4 h17 h18 H hq4
    replace H : slices_Concat_L_int_int__L1 k3 x6 size2 = some q4 := H
    unfold slices_Concat_L_int_int__L1 at H
    refine awp_seq ?_
    refine awp_plain hN rfl ?_
    refine seq_run0 (stp_lss rfl rfl) ?_
    refine awp_seq ?_
    refine awp_cond _ rfl (fun h => ?_) (fun h => (lt_f h17 h).elim)
    refine awp_skip ?_
    refine awp_seq ?_
    refine awp_block ?_
    refine awp_seq ?_
    refine awp_plain hN rfl ?_
    refine seq_run0 (t_idx tyE160 (fun _ => rfl) rfl rfl h18) ?_
    refine seq_run0 (stp_loadE1 tyS22 rfl (map_at h18) rfl) ?_
    refine seq_run0 (stp_assign (.dat _) rfl) ?_
    refine awp_seq ?_
    refine awp_plain hN rfl ?_
    refine seq_run0 (stp_move (.dat _) rfl) ?_
    refine seq_run0 (stp_move (.dat _) rfl) ?_
    refine seq_run0 (t_len tyU22 rfl) ?_
    refine seq_run0 (stp_wrap _ rfl rfl (.inl ⟨rfl, rfl⟩)) ?_
    refine seq_run0 (stp_assign (.dat _) rfl) ?_
    refine awp_seq ?_
    refine awp_plain hN rfl ?_
    refine seq_run0 (stp_move (.dat _) rfl) ?_
    refine seq_run0 (stp_lss rfl rfl) ?_
    refine awp_cond _ rfl (fun h19 => ?_) (fun h19 => ?_)
    · replace H := ift h19 H
      cases H
    · replace H := iff_ h19 H
      refine awp_skip ?_
      refine awp_plain hN rfl ?_
      refine seq_run0 (stp_add rfl rfl (by omega)) ?_
      refine seq_run0 (stp_move (.dat _) rfl) ?_
      exact ⟨_, backl H, ⟨rfl, rfl, rfl, rfl, rfl, trivial⟩, trivial⟩
theorem k_upstream_may_1 (l1 : (List Int)) (c2 : Int) (c3 : S_api_Budget) (r : (Int)) (H : m_upstream_may_1 l1 c2 c3 = some r) : Fn Try.prog 133 [vlst (List.map C_int l1), vcell [[vint c2]] 0 0, vcell [[vint c3.Window, vint c3.Least, vint c3.Part]] 0 0] (resOf [vint r]) := by
  refine ⟨by kernel_rfl, pure_of (us := [vint r]) Try.func133 rfl rfl rfl rfl fun X hN => ?_⟩
  unfold m_upstream_may_1 at H
  refine awp_seq ?_
  refine awp_plain hN rfl ?_
  refine seq_run0 (stp_assign (.dat _) rfl) ?_
  refine awp_seq ?_
  refine awp_plain hN rfl ?_
  refine seq_run0 (stp_assign (.dat _) rfl) ?_
  refine awp_seq ?_
  refine awp_seq ?_
  refine awp_plain hN rfl ?_
  refine seq_run0 (stp_move (.dat _) rfl) ?_
  refine seq_run0 (t_len tyU22 rfl) ?_
  refine seq_run0 (stp_move (.dat _) rfl) ?_
  refine awp_block ?_
  obtain ⟨h7, H⟩ := gif H
  refine awp_forL (fun (k5 : Nat) (s : Int) => [(1, .dat (vcell [[vint c2]] 0 0)), (2, .dat (vcell [[vint c3.Window, vint c3.Least, vint c3.Part]] 0 0)), (5, .dat (vint s)), (8, .dat (vlst (List.map C_int l1))), (9, .dat (vint (l1.length : Int))), (10, .dat (vint (k5 : Int)))]) (fun (k5 : Nat) (s : Int) => []) 0 H ⟨rfl, rfl, rfl, rfl, rfl, rfl, trivial⟩ trivial (fun _ _ => rfl) ?_ ?_
  · rintro n4 H
    replace H : upstream_may_1_E1 n4 = some r := H
    unfold upstream_may_1_E1 at H
    refine awp_seq ?_
    refine awp_plain hN rfl ?_
    refine seq_run0 (stp_lss rfl rfl) ?_
    refine awp_seq ?_
    refine awp_cond _ rfl (fun h => (lt_t h).elim) (fun h => ?_)
    refine awp_exit ?_
    refine awp_seq ?_
    refine awp_plain hN rfl ?_
    refine seq_run0 (stp_move (.dat _) rfl) ?_
    refine seq_run0 (stp_assign (.dat _) rfl) ?_
    refine awp_ret ?_
    cases H
    exact ⟨trivial, .inl rfl, trivial⟩
  · rintro k5 x8 n4 q6 h9 h10 H hq6
    replace H : upstream_may_1_L1 c2 c3 k5 x8 n4 = some q6 := H
    unfold upstream_may_1_L1 at H
    refine awp_seq ?_
    refine awp_plain hN rfl ?_
    refine seq_run0 (stp_lss rfl rfl) ?_
    refine awp_seq ?_
    refine awp_cond _ rfl (fun h => ?_) (fun h => (lt_f h9 h).elim)
    refine awp_skip ?_
    refine awp_joinE (ι := Int) (fun i => [(1, .dat (vcell [[vint c2]] 0 0)), (2, .dat (vcell [[vint c3.Window, vint c3.Least, vint c3.Part]] 0 0)), (5, .dat (vint i)), (8, .dat (vlst (List.map C_int l1))), (9, .dat (vint (l1.length : Int))), (10, .dat (vint (k5 : Int)))]) (fun i => []) (fun i => upstream_may_1_J2 i = some q6) (fun i => rfl) ?_ ?_
    · skip
      refine awp_block ?_
      refine awp_seq ?_
      refine awp_plain hN rfl ?_
      refine seq_run0 (t_idx tyE22 (fun _ => rfl) rfl rfl h10) ?_
      refine seq_run0 (stp_loadE1 tyS3 rfl (map_at h10) rfl) ?_
      refine seq_run0 (stp_assign (.dat _) rfl) ?_
      refine awp_seq ?_
      refine awp_plain hN rfl ?_
      refine seq_run0 (stp_move (.dat _) rfl) ?_
      refine seq_run0 (stp_loadE1 tyS3 rfl rfl rfl) ?_
      refine seq_run0 (stp_fldE tyF50_0 rfl) ?_
      refine seq_run0 (stp_loadE1 tyS3 rfl rfl rfl) ?_
      refine seq_run0 (stp_wrap _ rfl rfl (.inr (.inl ⟨rfl, rfl⟩))) ?_
      refine seq_run0 (stp_gtr rfl rfl) ?_
      refine seq_run0 (stp_move (.dat _) rfl) ?_
      refine seq_aT rfl rfl (fun hc => stp_move (.dat _) rfl) ?_
      refine seq_aT rfl rfl (fun hc => stp_loadE1 tyS3 rfl rfl rfl) ?_
      refine seq_aT rfl rfl (fun hc => stp_leq (cnd (c := (decide ((wr (c2 - c3.Window)) < x8))) hc) (cnd (c := (decide ((wr (c2 - c3.Window)) < x8))) hc)) ?_
      refine seq_run0 (stp_pick_and rfl (fun hb => (cnd (c := (decide ((wr (c2 - c3.Window)) < x8))) hb)) rfl) ?_
      refine awp_cond _ rfl (fun h11 => ?_) (fun h11 => ?_)
      · replace H := ift h11 H
        refine awp_plain hN rfl ?_
        refine seq_run0 (stp_move (.dat _) rfl) ?_
        refine seq_run0 (stp_wrap _ rfl rfl (.inl ⟨rfl, rfl⟩)) ?_
        refine seq_run0 (stp_assign (.dat _) rfl) ?_
        exact ⟨wr (n4 + 1), H, ⟨rfl, rfl, rfl, rfl, rfl, rfl, trivial⟩, trivial⟩
      · replace H := iff_ h11 H
        refine awp_skip ?_
        exact ⟨n4, H, ⟨rfl, rfl, rfl, rfl, rfl, rfl, trivial⟩, trivial⟩
    · rintro n12 H
      replace H : upstream_may_1_J2 n12 = some q6 := H
      unfold upstream_may_1_J2 at H
      refine awp_plain hN rfl ?_
      refine seq_run0 (stp_add rfl rfl (by omega)) ?_
      refine seq_run0 (stp_move (.dat _) rfl) ?_
      exact ⟨_, backl H, ⟨rfl, rfl, rfl, rfl, rfl, rfl, trivial⟩, trivial⟩
theorem k_upstream_may (b1 : S_api_Budget) (calls2 : (List Int)) (again3 : (List Int)) (v4 : Int) (r : (Bool)) (H : m_upstream_may b1 calls2 again3 v4 = some r) : Fn Try.prog 112 [vagg (C_api_Budget b1), vlst (List.map C_int calls2), vlst (List.map C_int again3), vint v4] (resOf [vbool r]) := by
  refine ⟨by kernel_rfl, pure_of (us := [vbool r]) Try.func112 rfl rfl rfl rfl fun X hN => ?_⟩
  unfold m_upstream_may at H
  refine awp_seq ?_
  refine awp_plain hN rfl ?_
  refine seq_run2 (stp_boxA 1 rfl) rfl ?_
  refine seq_run2 (stp_box1 2 rfl rfl) rfl ?_
  refine seq_run0 (stp_assign (.dat _) rfl) ?_
  refine awp_seq ?_
  refine awp_frzB 2 [vint v4] rfl rfl ?_
  refine awp_frzB 1 [vint b1.Window, vint b1.Least, vint b1.Part] rfl rfl ?_
  refine awp_plain hN rfl ?_
  refine seq_run0 (stp_mkfn (us := [_, _]) ⟨rfl, rfl, trivial⟩) ?_
  refine seq_run0 (stp_assign (.dat _) rfl) ?_
  refine awp_seq ?_
  refine awp_draw mixed hN rfl rfl ?_
  refine seq_run0 (stp_move (.dat _) rfl) ?_
  refine seq_run0 (stp_move (.dat _) rfl) ?_
  obtain ⟨r5, h6, H⟩ := bnd H
  refine seq_run0 (stp_callv (us := [vlst (List.map C_int again3)]) (cs := [vcell [[vint v4]] 0 0, vcell [[vint b1.Window, vint b1.Least, vint b1.Part]] 0 0]) (k_upstream_may_1 again3 v4 b1 r5 h6) rfl ⟨.inl rfl, trivial⟩) ?_
  refine seq_run0 (stp_fldE tyF50_1 rfl) ?_
  refine seq_run0 (stp_loadE1 tyS3 rfl rfl rfl) ?_
  refine seq_run0 (stp_fldE tyF50_2 rfl) ?_
  refine seq_run0 (stp_loadE1 tyS3 rfl rfl rfl) ?_
  refine seq_run0 (stp_move (.dat _) rfl) ?_
  refine seq_run0 (stp_move (.dat _) rfl) ?_
  obtain ⟨r7, h8, H⟩ := bnd H
  refine seq_run0 (stp_callv (us := [vlst (List.map C_int calls2)]) (cs := [vcell [[vint v4]] 0 0, vcell [[vint b1.Window, vint b1.Least, vint b1.Part]] 0 0]) (k_upstream_may_1 calls2 v4 b1 r7 h8) rfl ⟨.inl rfl, trivial⟩) ?_
  refine seq_run0 (stp_wrap _ rfl rfl (.inr (.inr ⟨rfl, rfl⟩))) ?_
  obtain ⟨h9, H⟩ := gif H
  refine seq_run0 (stp_quo rfl rfl h9.1 h9.2) ?_
  refine seq_run0 (stp_wrap _ rfl rfl (.inl ⟨rfl, rfl⟩)) ?_
  refine seq_run0 (stp_lss rfl rfl) ?_
  refine seq_run0 (stp_assign (.dat _) rfl) ?_
  refine ⟨rfl, ?_⟩
  refine awp_ret ?_
  cases H
  exact ⟨trivial, .inl rfl, trivial⟩
theorem k_upstream_May (b1 : S_api_Budget) (calls2 : (List Int)) (again3 : (List Int)) (v4 : Int) (r : (Bool × Int)) (H : m_upstream_May b1 calls2 again3 v4 = some r) : Fn Try.prog 60 [vagg (C_api_Budget b1), vlst (List.map C_int calls2), vlst (List.map C_int again3), vint v4] (resOf [vbool r.1, vint r.2]) := by
  refine ⟨by kernel_rfl, pure_of (us := [vbool r.1, vint r.2]) Try.func60 rfl rfl rfl rfl fun X hN => ?_⟩
  unfold m_upstream_May at H
  refine awp_seq ?_
  refine awp_plain hN rfl ?_
  refine seq_run2 (stp_boxA 1 rfl) rfl ?_
  refine seq_run0 (stp_assign (.dat _) rfl) ?_
  refine seq_run0 (stp_assign (.dat _) rfl) ?_
  refine awp_seq ?_
  refine awp_seq ?_
  refine awp_plain hN rfl ?_
  refine seq_run1 (stp_loadA tyS50 rfl rfl rfl) rfl ?_
  obtain ⟨r5, h6, H⟩ := bnd H
  refine seq_run0 (stp_call (k_upstream_CheckBudget b1 r5 h6) ⟨.inl rfl, trivial⟩) ?_
  refine seq_run0 (stp_assign (.dat _) rfl) ?_
  refine awp_seq ?_
  refine awp_plain hN rfl ?_
  refine seq_run0 (stp_move (.dat _) rfl) ?_
  refine seq_run0 (stp_neq rfl rfl) ?_
  refine awp_cond _ rfl (fun h7 => ?_) (fun h7 => ?_)
  · replace H := ift h7 H
    refine awp_seq ?_
    refine awp_plain hN rfl ?_
    refine seq_run0 (stp_move (.dat _) rfl) ?_
    refine seq_run0 (stp_assign (.dat _) rfl) ?_
    refine seq_run0 (stp_assign (.dat _) rfl) ?_
    refine awp_ret ?_
    cases H
    exact ⟨trivial, .inl rfl, .inl rfl, trivial⟩
  · replace H := iff_ h7 H
    refine awp_skip ?_
    refine awp_seq ?_
    refine awp_seq ?_
    refine awp_plain hN rfl ?_
    refine seq_run0 (stp_move (.dat _) rfl) ?_
    refine seq_run0 (t_len tyU22 rfl) ?_
    refine seq_run0 (stp_gtr rfl rfl) ?_
    refine seq_run0 (stp_move (.dat _) rfl) ?_
    refine seq_aF rfl rfl (fun hc => stp_move (.dat _) rfl) ?_
    refine seq_aF rfl rfl (fun hc => t_len tyU22 (cnd (c := (!(decide (2000 < (calls2.length : Int))))) hc)) ?_
    refine seq_aF rfl rfl (fun hc => stp_gtr (cnd (c := (!(decide (2000 < (calls2.length : Int))))) hc) rfl) ?_
    refine seq_run0 (stp_pick_or rfl rfl (fun hb => (cnd (c := (!(decide (2000 < (calls2.length : Int))))) (notI hb)))) ?_
    refine awp_cond _ rfl (fun h8 => ?_) (fun h8 => ?_)
    · replace H := ift h8 H
      refine awp_seq ?_
      refine awp_plain hN rfl ?_
      refine seq_run0 (stp_assign (.dat _) rfl) ?_
      refine seq_run0 (stp_assign (.dat _) rfl) ?_
      refine awp_ret ?_
      cases H
      exact ⟨trivial, .inl rfl, .inl rfl, trivial⟩
    · replace H := iff_ h8 H
      refine awp_skip ?_
      refine awp_seq ?_
      refine awp_seq ?_
      refine awp_plain hN rfl ?_
      refine seq_run0 (stp_move (.dat _) rfl) ?_
      refine seq_run0 (stp_move (.dat _) rfl) ?_
      refine seq_run0 (stp_dat (u' := vlst (List.map C_L_int [calls2, again3])) (stp_lit [[_], [_]] tyL160 ⟨rfl, .inl ⟨_, rfl, rfl, rfl⟩, rfl, rfl, .inl ⟨_, rfl, rfl, rfl⟩, rfl, trivial⟩ rfl rfl) rfl) ?_
      obtain ⟨r9, h10, H⟩ := bnd H
      refine seq_callG (rn [(1, 2)]) [] [(1, _)] (kr_slices_Concat_L_int_int_ [calls2, again3] r9 h10) ⟨rfl, trivial⟩ ⟨.inl (.inl rfl), trivial⟩ trivial rfl ?_
      refine seq_run0 (stp_move (.dat _) rfl) ?_
      refine seq_run0 (stp_dat (u' := vlst (List.map C_int [v4])) (stp_lit [[_]] tyL22 ⟨rfl, .inl ⟨_, rfl, rfl, rfl⟩, rfl, trivial⟩ rfl rfl) rfl) ?_
      obtain ⟨h11, H⟩ := gif H
      refine seq_run2 (t_app tyL22 (fun _ => rfl) rfl rfl rfl ⟨by simp, by simpa using h11⟩ rfl) rfl ?_
      refine seq_run1 (t_lenR tyU22 rfl rfl) rfl ?_
      refine seq_run0 (stp_move (.dat _) rfl) ?_
      refine awp_block ?_
      obtain ⟨h14, H⟩ := gif H
      refine awp_rng (fun (k12 : Nat) (s : Unit) => [(1, .dat (vlst (List.map C_int calls2))), (2, .dat (vlst (List.map C_int again3))), (3, .dat (vint v4)), (4, .ptr 1 0), (32, .row 2 ((r9 ++ [v4]).length)), (33, .dat (vint ((r9 ++ [v4]).length : Int))), (34, .dat (vint (k12 : Int)))]) (fun (k12 : Nat) (s : Unit) => [(1, .box none 50 [.dat (vint b1.Window), .dat (vint b1.Least), .dat (vint b1.Part)]), (2, .row 3 1 (List.map C_int (r9 ++ [v4])))]) () H ⟨rfl, rfl, rfl, rfl, rfl, rfl, rfl, trivial⟩ ⟨rfl, rfl, trivial⟩ (fun _ _ => rfl) ?_ ?_
      · rintro ⟨⟩ H
        replace H : upstream_May_E1 b1 calls2 again3 v4 = some r := H
        unfold upstream_May_E1 at H
        refine awp_seq ?_
        refine awp_plain hN rfl ?_
        refine seq_run0 (stp_lss rfl rfl) ?_
        refine awp_seq ?_
        refine awp_cond _ rfl (fun h => (lt_t h).elim) (fun h => ?_)
        refine awp_exit ?_
        refine awp_seq ?_
        refine awp_plain hN rfl ?_
        refine seq_run1 (stp_loadA tyS50 rfl rfl rfl) rfl ?_
        refine seq_run0 (stp_move (.dat _) rfl) ?_
        refine seq_run0 (stp_move (.dat _) rfl) ?_
        refine seq_run0 (stp_move (.dat _) rfl) ?_
        obtain ⟨r15, h16, H⟩ := bnd H
        refine seq_run0 (stp_call (k_upstream_may b1 calls2 again3 v4 r15 h16) ⟨.inl rfl, .inl rfl, .inl rfl, .inl rfl, trivial⟩) ?_
        refine seq_run0 (stp_assign (.dat _) rfl) ?_
        refine seq_run0 (stp_assign (.dat _) rfl) ?_
        refine awp_ret ?_
        cases H
        exact ⟨trivial, .inl rfl, .inl rfl, trivial⟩
      · rintro k12 ⟨⟩ q13 h17 H hq13
        replace H : upstream_May_L1 v4 r9 k12 = some q13 := H
        unfold upstream_May_L1 at H
        refine awp_seq ?_
        refine awp_plain hN rfl ?_
        refine seq_run0 (stp_lss rfl rfl) ?_
        refine awp_seq ?_
        refine awp_cond _ rfl (fun h => ?_) (fun h => (lt_f h17 h).elim)
        refine awp_skip ?_
        refine awp_seq ?_
        refine awp_block ?_
        refine awp_seq ?_
        refine awp_plain hN rfl ?_
        obtain ⟨x18, h19, H⟩ := bnd H
        refine seq_run1 (t_idxR tyE22 rfl rfl rfl h19) rfl ?_
        refine seq_run1 (t_loadR1 tyS3 rfl rfl h19 rfl) rfl ?_
        refine seq_run0 (stp_assign (.dat _) rfl) ?_
        refine awp_seq ?_
        refine awp_plain hN rfl ?_
        refine seq_run0 (stp_move (.dat _) rfl) ?_
        obtain ⟨r20, h21, H⟩ := bnd H
        refine seq_run0 (stp_call (k_kit_IsMoment x18 r20 h21) ⟨.inl rfl, trivial⟩) ?_
        refine seq_run0 (stp_not rfl) ?_
        refine awp_cond _ rfl (fun h22 => ?_) (fun h22 => ?_)
        · replace H := ift h22 H
          refine awp_seq ?_
          refine awp_plain hN rfl ?_
          refine seq_run0 (stp_assign (.dat _) rfl) ?_
          refine seq_run0 (stp_assign (.dat _) rfl) ?_
          refine awp_ret ?_
          replace H := retl H hq13
          cases H
          exact ⟨trivial, .inl rfl, .inl rfl, trivial⟩
        · replace H := iff_ h22 H
          refine awp_skip ?_
          refine awp_plain hN rfl ?_
          refine seq_run0 (stp_add rfl rfl (by omega)) ?_
          refine seq_run0 (stp_move (.dat _) rfl) ?_
          exact ⟨_, backl H, ⟨rfl, rfl, rfl, rfl, rfl, rfl, rfl, trivial⟩, ⟨rfl, rfl, trivial⟩⟩
theorem k_gateref2_BackoffFault (wait1 : Int) (most2 : Int) (v3 : Int) (r : (Int)) (H : m_gateref2_BackoffFault wait1 most2 v3 = some r) : Fn Try.prog 62 [vint wait1, vint most2, vint v3] (resOf [vint r]) := by
  refine ⟨by kernel_rfl, pure_of (us := [vint r]) Try.func62 rfl rfl rfl rfl fun X hN => ?_⟩
  unfold m_gateref2_BackoffFault at H
  refine awp_seq ?_
  refine awp_plain hN rfl ?_
  refine seq_run0 (stp_assign (.dat _) rfl) ?_
  refine awp_seq ?_
  refine awp_joinE (ι := Bool) (fun i => [(19, .dat (vbool i))]) (fun i => []) (fun i => gateref2_BackoffFault_J1 i = some r) (fun i => rfl) ?_ ?_
  · skip
    refine awp_plain hN rfl ?_
    refine seq_run0 (stp_move (.dat _) rfl) ?_
    refine seq_run0 (stp_move (.dat _) rfl) ?_
    obtain ⟨r4, h5, H⟩ := bnd H
    refine seq_run0 (stp_call (k_gateref2_in wait1 0 most2 r4 h5) ⟨.inl rfl, .inl rfl, .inl rfl, trivial⟩) ?_
    refine seq_run0 (stp_not rfl) ?_
    refine seq_run0 (stp_move (.dat _) rfl) ?_
    refine seq_split (j := 4) rfl rfl (fun h6 => ?_) (fun h6 => ?_) rfl
    · have h7 := un3 h6
      replace H := iff_ h7 H
      refine seq_g0 rfl rfl h6 (stp_move (.dat _) rfl) ?_
      refine seq_g0 rfl rfl h6 (stp_gtr rfl rfl) ?_
      refine seq_run0 (stp_pick_f rfl (bFF h7) rfl) ?_
      refine seq_run0 (stp_move (.dat _) rfl) ?_
      refine seq_split (j := 8) rfl rfl (fun h8 => ?_) (fun h8 => ?_) rfl
      · have h9 := un3 h8
        replace H := iff_ h9 H
        refine seq_g0 rfl rfl h8 (stp_move (.dat _) rfl) ?_
        obtain ⟨r10, h11, H⟩ := bnd H
        refine seq_g0 rfl rfl h8 (stp_call (k_gateref2_in v3 2 100 r10 h11) ⟨.inl rfl, .inl rfl, .inl rfl, trivial⟩) ?_
        refine seq_g0 rfl rfl h8 (stp_not rfl) ?_
        refine seq_run0 (stp_pick_f rfl (bFF h9) rfl) ?_
        exact ⟨!r10, H, ⟨rfl, trivial⟩, trivial⟩
      · have h12 := un4 h8
        replace H := ift h12 H
        refine seq_skip rfl rfl h8 ?_
        refine seq_skip rfl rfl h8 ?_
        refine seq_skip rfl rfl h8 ?_
        refine seq_run0 (stp_pick_t rfl (bTT h12) rfl) ?_
        exact ⟨true, H, ⟨rfl, trivial⟩, trivial⟩
    · have h13 := un4 h6
      replace H := ift h13 H
      refine seq_skip rfl rfl h6 ?_
      refine seq_skip rfl rfl h6 ?_
      refine seq_run0 (stp_pick_t rfl (bTT h13) rfl) ?_
      refine seq_run0 (stp_move (.dat _) rfl) ?_
      refine seq_skip rfl rfl rfl ?_
      refine seq_skip rfl rfl rfl ?_
      refine seq_skip rfl rfl rfl ?_
      refine seq_run0 (stp_pick_t rfl rfl rfl) ?_
      exact ⟨true, H, ⟨rfl, trivial⟩, trivial⟩
  · rintro v14 H
    replace H : gateref2_BackoffFault_J1 v14 = some r := H
    unfold gateref2_BackoffFault_J1 at H
    refine awp_cond _ rfl (fun h15 => ?_) (fun h15 => ?_)
    · replace H := ift h15 H
      refine awp_seq ?_
      refine awp_plain hN rfl ?_
      refine seq_run0 (stp_assign (.dat _) rfl) ?_
      refine awp_ret ?_
      cases H
      exact ⟨trivial, .inl rfl, trivial⟩
    · replace H := iff_ h15 H
      refine awp_skip ?_
      refine awp_seq ?_
      refine awp_plain hN rfl ?_
      refine seq_run0 (stp_assign (.dat _) rfl) ?_
      refine awp_ret ?_
      cases H
      exact ⟨trivial, .inl rfl, trivial⟩
theorem k_gateref2_BudgetFault (b1 : S_api_Budget) (r : (Int)) (H : m_gateref2_BudgetFault b1 = some r) : Fn Try.prog 63 [vagg (C_api_Budget b1)] (resOf [vint r]) := by
  refine ⟨by kernel_rfl, pure_of (us := [vint r]) Try.func63 rfl rfl rfl rfl fun X hN => ?_⟩
  unfold m_gateref2_BudgetFault at H
  refine awp_seq ?_
  refine awp_plain hN rfl ?_
  refine seq_run2 (stp_boxA 1 rfl) rfl ?_
  refine seq_run0 (stp_assign (.dat _) rfl) ?_
  refine awp_seq ?_
  refine awp_joinE (ι := Bool) (fun i => [(18, .dat (vbool i))]) (fun i => []) (fun i => gateref2_BudgetFault_J1 i = some r) (fun i => rfl) ?_ ?_
  · skip
    refine awp_plain hN rfl ?_
    refine seq_run0 (stp_fldP tyF50_0 rfl) ?_
    refine seq_run1 (stp_load1 tyS3 rfl rfl) rfl ?_
    obtain ⟨r2, h3, H⟩ := bnd H
    refine seq_run0 (stp_call (k_gateref2_in b1.Window 1 3600000 r2 h3) ⟨.inl rfl, .inl rfl, .inl rfl, trivial⟩) ?_
    refine seq_run0 (stp_not rfl) ?_
    refine seq_run0 (stp_move (.dat _) rfl) ?_
    refine seq_split (j := 4) rfl rfl (fun h4 => ?_) (fun h4 => ?_) rfl
    · have h5 := un3 h4
      replace H := iff_ h5 H
      refine seq_g0 rfl rfl h4 (stp_fldP tyF50_1 rfl) ?_
      refine seq_g1 rfl rfl h4 (stp_load1 tyS3 rfl rfl) rfl ?_
      obtain ⟨r6, h7, H⟩ := bnd H
      refine seq_g0 rfl rfl h4 (stp_call (k_gateref2_in b1.Least 0 300 r6 h7) ⟨.inl rfl, .inl rfl, .inl rfl, trivial⟩) ?_
      refine seq_g0 rfl rfl h4 (stp_not rfl) ?_
      refine seq_run0 (stp_pick_f rfl (bFF h5) rfl) ?_
      refine seq_run0 (stp_move (.dat _) rfl) ?_
      refine seq_split (j := 10) rfl rfl (fun h8 => ?_) (fun h8 => ?_) rfl
      · have h9 := un3 h8
        replace H := iff_ h9 H
        refine seq_g0 rfl rfl h8 (stp_fldP tyF50_2 rfl) ?_
        refine seq_g1 rfl rfl h8 (stp_load1 tyS3 rfl rfl) rfl ?_
        obtain ⟨r10, h11, H⟩ := bnd H
        refine seq_g0 rfl rfl h8 (stp_call (k_gateref2_in b1.Part 0 1000 r10 h11) ⟨.inl rfl, .inl rfl, .inl rfl, trivial⟩) ?_
        refine seq_g0 rfl rfl h8 (stp_not rfl) ?_
        refine seq_run0 (stp_pick_f rfl (bFF h9) rfl) ?_
        exact ⟨!r10, H, ⟨rfl, trivial⟩, trivial⟩
      · have h12 := un4 h8
        replace H := ift h12 H
        refine seq_skip rfl rfl h8 ?_
        refine seq_skip rfl rfl h8 ?_
        refine seq_skip rfl rfl h8 ?_
        refine seq_skip rfl rfl h8 ?_
        refine seq_run0 (stp_pick_t rfl (bTT h12) rfl) ?_
        exact ⟨true, H, ⟨rfl, trivial⟩, trivial⟩
    · have h13 := un4 h4
      replace H := ift h13 H
      refine seq_skip rfl rfl h4 ?_
      refine seq_skip rfl rfl h4 ?_
      refine seq_skip rfl rfl h4 ?_
      refine seq_skip rfl rfl h4 ?_
      refine seq_run0 (stp_pick_t rfl (bTT h13) rfl) ?_
      refine seq_run0 (stp_move (.dat _) rfl) ?_
      refine seq_skip rfl rfl rfl ?_
      refine seq_skip rfl rfl rfl ?_
      refine seq_skip rfl rfl rfl ?_
      refine seq_skip rfl rfl rfl ?_
      refine seq_run0 (stp_pick_t rfl rfl rfl) ?_
      exact ⟨true, H, ⟨rfl, trivial⟩, trivial⟩
  · rintro v14 H
    replace H : gateref2_BudgetFault_J1 v14 = some r := H
    unfold gateref2_BudgetFault_J1 at H
    refine awp_cond _ rfl (fun h15 => ?_) (fun h15 => ?_)
    · replace H := ift h15 H
      refine awp_seq ?_
      refine awp_plain hN rfl ?_
      refine seq_run0 (stp_assign (.dat _) rfl) ?_
      refine awp_ret ?_
      cases H
      exact ⟨trivial, .inl rfl, trivial⟩
    · replace H := iff_ h15 H
      refine awp_skip ?_
      refine awp_seq ?_
      refine awp_plain hN rfl ?_
      refine seq_run0 (stp_assign (.dat _) rfl) ?_
      refine awp_ret ?_
      cases H
      exact ⟨trivial, .inl rfl, trivial⟩
theorem k_gateref2_PercentileOf (l1 : (List Int)) (part2 : Int) (r : (Int)) (H : m_gateref2_PercentileOf l1 part2 = some r) : Fn Try.prog 66 [vlst (List.map C_int l1), vint part2] (resOf [vint r]) := by
  refine ⟨by kernel_rfl, pure_of (us := [vint r]) Try.func66 rfl rfl rfl rfl fun X hN => ?_⟩
  unfold m_gateref2_PercentileOf at H
  refine awp_seq ?_
  refine awp_plain hN rfl ?_
  refine seq_run0 (stp_assign (.dat _) rfl) ?_
  refine awp_seq ?_
  refine awp_plain hN rfl ?_
  refine seq_run0 (stp_assign (.dat _) rfl) ?_
  refine seq_run0 (stp_assign (.dat _) rfl) ?_
  refine awp_seq ?_
  refine awp_seq ?_
  refine awp_plain hN rfl ?_
  refine seq_run0 (stp_move (.dat _) rfl) ?_
  refine seq_run0 (t_len tyU22 rfl) ?_
  refine seq_run0 (stp_move (.dat _) rfl) ?_
  refine awp_block ?_
  obtain ⟨h7, H⟩ := gif H
  refine awp_forL (fun (k5 : Nat) (s : Int × Bool) => [(0, .dat (vlst (List.map C_int l1))), (1, .dat (vint part2)), (5, .dat (vint s.1)), (6, .dat (vbool s.2)), (12, .dat (vlst (List.map C_int l1))), (13, .dat (vint (l1.length : Int))), (14, .dat (vint (k5 : Int)))]) (fun (k5 : Nat) (s : Int × Bool) => []) (0, false) H ⟨rfl, rfl, rfl, rfl, rfl, rfl, rfl, trivial⟩ trivial (fun _ _ => rfl) ?_ ?_
  · rintro ⟨least3, found4⟩ H
    replace H : gateref2_PercentileOf_E1 least3 found4 = some r := H
    unfold gateref2_PercentileOf_E1 at H
    refine awp_seq ?_
    refine awp_plain hN rfl ?_
    refine seq_run0 (stp_lss rfl rfl) ?_
    refine awp_seq ?_
    refine awp_cond _ rfl (fun h => (lt_t h).elim) (fun h => ?_)
    refine awp_exit ?_
    refine awp_seq ?_
    refine awp_plain hN rfl ?_
    refine seq_run0 (stp_move (.dat _) rfl) ?_
    refine seq_run0 (stp_assign (.dat _) rfl) ?_
    refine awp_ret ?_
    cases H
    exact ⟨trivial, .inl rfl, trivial⟩
  · rintro k5 x8 ⟨least3, found4⟩ q6 h9 h10 H hq6
    replace H : gateref2_PercentileOf_L1 l1 part2 k5 x8 least3 found4 = some q6 := H
    unfold gateref2_PercentileOf_L1 at H
    refine awp_seq ?_
    refine awp_plain hN rfl ?_
    refine seq_run0 (stp_lss rfl rfl) ?_
    refine awp_seq ?_
    refine awp_cond _ rfl (fun h => ?_) (fun h => (lt_f h9 h).elim)
    refine awp_skip ?_
    refine awp_joinE (ι := Int × Bool) (fun i => [(0, .dat (vlst (List.map C_int l1))), (1, .dat (vint part2)), (5, .dat (vint i.1)), (6, .dat (vbool i.2)), (12, .dat (vlst (List.map C_int l1))), (13, .dat (vint (l1.length : Int))), (14, .dat (vint (k5 : Int)))]) (fun i => []) (fun i => gateref2_PercentileOf_J2 i.1 i.2 = some q6) (fun i => rfl) ?_ ?_
    · skip
      refine awp_block ?_
      refine awp_seq ?_
      refine awp_plain hN rfl ?_
      refine seq_run0 (t_idx tyE22 (fun _ => rfl) rfl rfl h10) ?_
      refine seq_run0 (stp_loadE1 tyS3 rfl (map_at h10) rfl) ?_
      refine seq_run0 (stp_assign (.dat _) rfl) ?_
      refine awp_seq ?_
      refine awp_plain hN rfl ?_
      refine seq_run0 (stp_assign (.dat _) rfl) ?_
      refine awp_seq ?_
      refine awp_seq ?_
      refine awp_plain hN rfl ?_
      refine seq_run0 (stp_move (.dat _) rfl) ?_
      refine seq_run0 (t_len tyU22 rfl) ?_
      refine seq_run0 (stp_move (.dat _) rfl) ?_
      refine awp_block ?_
      obtain ⟨h14, H⟩ := gif H
      refine awp_forL (fun (k12 : Nat) (s : Int) => [(0, .dat (vlst (List.map C_int l1))), (1, .dat (vint part2)), (5, .dat (vint least3)), (6, .dat (vbool found4)), (8, .dat (vint x8)), (9, .dat (vint s)), (12, .dat (vlst (List.map C_int l1))), (13, .dat (vint (l1.length : Int))), (14, .dat (vint (k5 : Int))), (18, .dat (vlst (List.map C_int l1))), (19, .dat (vint (l1.length : Int))), (20, .dat (vint (k12 : Int)))]) (fun (k12 : Nat) (s : Int) => []) 0 H ⟨rfl, rfl, rfl, rfl, rfl, rfl, rfl, rfl, rfl, rfl, rfl, rfl, trivial⟩ trivial (fun _ _ => rfl) ?_ ?_
      · rintro many11 H
        replace H : gateref2_PercentileOf_E3 l1 part2 least3 found4 x8 many11 = some q6 := H
        unfold gateref2_PercentileOf_E3 at H
        refine awp_seq ?_
        refine awp_plain hN rfl ?_
        refine seq_run0 (stp_lss rfl rfl) ?_
        refine awp_seq ?_
        refine awp_cond _ rfl (fun h => (lt_t h).elim) (fun h => ?_)
        refine awp_exit ?_
        refine awp_seq ?_
        refine awp_plain hN rfl ?_
        refine seq_run0 (stp_move (.dat _) rfl) ?_
        refine seq_run0 (stp_wrap _ rfl rfl (.inr (.inr ⟨rfl, rfl⟩))) ?_
        refine seq_run0 (stp_move (.dat _) rfl) ?_
        refine seq_run0 (stp_move (.dat _) rfl) ?_
        refine seq_run0 (t_len tyU22 rfl) ?_
        refine seq_run0 (stp_wrap _ rfl rfl (.inr (.inr ⟨rfl, rfl⟩))) ?_
        refine seq_run0 (stp_geq rfl rfl) ?_
        refine seq_run0 (stp_move (.dat _) rfl) ?_
        refine seq_aT rfl rfl (fun hc => stp_move (.dat _) rfl) ?_
        refine seq_aT rfl rfl (fun hc => stp_not (cnd (c := (decide ((wr (part2 * (l1.length : Int))) ≤ (wr (many11 * 1000))))) hc)) ?_
        refine seq_aT rfl rfl (fun hc => stp_move (.dat _) (cnd (c := (decide ((wr (part2 * (l1.length : Int))) ≤ (wr (many11 * 1000))))) hc)) ?_
        refine seq_bF rfl rfl (fun hc => stp_move (.dat _) rfl) ?_
        refine seq_bF rfl rfl (fun hc => stp_move (.dat _) rfl) ?_
        refine seq_bF rfl rfl (fun hc => stp_lss (cnd (c := ((decide ((wr (part2 * (l1.length : Int))) ≤ (wr (many11 * 1000)))) && !(!found4))) hc) (cnd (c := ((decide ((wr (part2 * (l1.length : Int))) ≤ (wr (many11 * 1000)))) && !(!found4))) hc)) ?_
        refine seq_aT rfl rfl (fun hc => stp_pick_or (cnd (c := (decide ((wr (part2 * (l1.length : Int))) ≤ (wr (many11 * 1000))))) hc) rfl (fun hb => (cnd (c := ((decide ((wr (part2 * (l1.length : Int))) ≤ (wr (many11 * 1000)))) && !(!found4))) (andI hc (notI hb))))) ?_
        refine seq_run0 (stp_pick_and rfl (fun hb => (cnd (c := (decide ((wr (part2 * (l1.length : Int))) ≤ (wr (many11 * 1000))))) hb)) rfl) ?_
        refine awp_cond _ rfl (fun h16 => ?_) (fun h16 => ?_)
        · replace H := ift h16 H
          refine awp_plain hN rfl ?_
          refine seq_run0 (stp_move (.dat _) rfl) ?_
          refine seq_run0 (stp_assign (.dat _) rfl) ?_
          refine seq_run0 (stp_assign (.dat _) rfl) ?_
          exact ⟨(x8, true), H, ⟨rfl, rfl, rfl, rfl, rfl, rfl, rfl, trivial⟩, trivial⟩
        · replace H := iff_ h16 H
          refine awp_skip ?_
          exact ⟨(least3, found4), H, ⟨rfl, rfl, rfl, rfl, rfl, rfl, rfl, trivial⟩, trivial⟩
      · rintro k12 x15 many11 q13 h17 h18 H hq13
        replace H : gateref2_PercentileOf_L3 x8 k12 x15 many11 = some q13 := H
        unfold gateref2_PercentileOf_L3 at H
        refine awp_seq ?_
        refine awp_plain hN rfl ?_
        refine seq_run0 (stp_lss rfl rfl) ?_
        refine awp_seq ?_
        refine awp_cond _ rfl (fun h => ?_) (fun h => (lt_f h17 h).elim)
        refine awp_skip ?_
        refine awp_joinE (ι := Int) (fun i => [(0, .dat (vlst (List.map C_int l1))), (1, .dat (vint part2)), (5, .dat (vint least3)), (6, .dat (vbool found4)), (8, .dat (vint x8)), (9, .dat (vint i)), (12, .dat (vlst (List.map C_int l1))), (13, .dat (vint (l1.length : Int))), (14, .dat (vint (k5 : Int))), (18, .dat (vlst (List.map C_int l1))), (19, .dat (vint (l1.length : Int))), (20, .dat (vint (k12 : Int)))]) (fun i => []) (fun i => gateref2_PercentileOf_J4 i = some q13) (fun i => rfl) ?_ ?_
        · skip
          refine awp_block ?_
          refine awp_seq ?_
          refine awp_plain hN rfl ?_
          refine seq_run0 (t_idx tyE22 (fun _ => rfl) rfl rfl h18) ?_
          refine seq_run0 (stp_loadE1 tyS3 rfl (map_at h18) rfl) ?_
          refine seq_run0 (stp_assign (.dat _) rfl) ?_
          refine awp_seq ?_
          refine awp_plain hN rfl ?_
          refine seq_run0 (stp_move (.dat _) rfl) ?_
          refine seq_run0 (stp_move (.dat _) rfl) ?_
          refine seq_run0 (stp_leq rfl rfl) ?_
          refine awp_cond _ rfl (fun h19 => ?_) (fun h19 => ?_)
          · replace H := ift h19 H
            refine awp_plain hN rfl ?_
            refine seq_run0 (stp_move (.dat _) rfl) ?_
            refine seq_run0 (stp_wrap _ rfl rfl (.inl ⟨rfl, rfl⟩)) ?_
            refine seq_run0 (stp_assign (.dat _) rfl) ?_
            exact ⟨wr (many11 + 1), H, ⟨rfl, rfl, rfl, rfl, rfl, rfl, rfl, rfl, rfl, rfl, rfl, rfl, trivial⟩, trivial⟩
          · replace H := iff_ h19 H
            refine awp_skip ?_
            exact ⟨many11, H, ⟨rfl, rfl, rfl, rfl, rfl, rfl, rfl, rfl, rfl, rfl, rfl, rfl, trivial⟩, trivial⟩
        · rintro many20 H
          replace H : gateref2_PercentileOf_J4 many20 = some q13 := H
          unfold gateref2_PercentileOf_J4 at H
          refine awp_plain hN rfl ?_
          refine seq_run0 (stp_add rfl rfl (by omega)) ?_
          refine seq_run0 (stp_move (.dat _) rfl) ?_
          exact ⟨_, backl H, ⟨rfl, rfl, rfl, rfl, rfl, rfl, rfl, rfl, rfl, rfl, rfl, rfl, trivial⟩, trivial⟩
    · rintro ⟨least21, found22⟩ H
      replace H : gateref2_PercentileOf_J2 least21 found22 = some q6 := H
      unfold gateref2_PercentileOf_J2 at H
      refine awp_plain hN rfl ?_
      refine seq_run0 (stp_add rfl rfl (by omega)) ?_
      refine seq_run0 (stp_move (.dat _) rfl) ?_
      exact ⟨_, backl H, ⟨rfl, rfl, rfl, rfl, rfl, rfl, rfl, trivial⟩, trivial⟩
theorem k_gateref2_BackoffOf (wait1 : Int) (most2 : Int) (v3 : Int) (r : (Int)) (H : m_gateref2_BackoffOf wait1 most2 v3 = some r) : Fn Try.prog 67 [vint wait1, vint most2, vint v3] (resOf [vint r]) := by
  refine ⟨by kernel_rfl, pure_of (us := [vint r]) Try.func67 rfl rfl rfl rfl fun X hN => ?_⟩
  unfold m_gateref2_BackoffOf at H
  refine awp_seq ?_
  refine awp_plain hN rfl ?_
  refine seq_run0 (stp_assign (.dat _) rfl) ?_
  refine awp_seq ?_
  refine awp_seq ?_
  refine awp_plain hN rfl ?_
  refine seq_run0 (stp_move (.dat _) rfl) ?_
  refine seq_run0 (stp_wrap _ rfl rfl (.inr (.inl ⟨rfl, rfl⟩))) ?_
  refine seq_run0 (stp_move (.dat _) rfl) ?_
  refine awp_block ?_
  obtain ⟨h7, H⟩ := gif H
  refine awp_rng (fun (k5 : Nat) (s : Int) => [(0, .dat (vint s)), (1, .dat (vint most2)), (8, .dat (vint (wr (v3 - 2)))), (9, .dat (vint (k5 : Int)))]) (fun (k5 : Nat) (s : Int) => []) wait1 H ⟨rfl, rfl, rfl, rfl, trivial⟩ trivial (fun _ _ => rfl) ?_ ?_
  · rintro wait4 H
    replace H : gateref2_BackoffOf_E1 wait4 = some r := H
    unfold gateref2_BackoffOf_E1 at H
    refine awp_seq ?_
    refine awp_plain hN rfl ?_
    refine seq_run0 (stp_lss rfl rfl) ?_
    refine awp_seq ?_
    refine awp_cond _ rfl (fun h => (lt_tI h).elim) (fun h => ?_)
    refine awp_exit ?_
    refine awp_seq ?_
    refine awp_plain hN rfl ?_
    refine seq_run0 (stp_move (.dat _) rfl) ?_
    refine seq_run0 (stp_assign (.dat _) rfl) ?_
    refine awp_ret ?_
    cases H
    exact ⟨trivial, .inl rfl, trivial⟩
  · rintro k5 wait4 q6 h8 H hq6
    replace H : gateref2_BackoffOf_L1 most2 k5 wait4 = some q6 := H
    unfold gateref2_BackoffOf_L1 at H
    refine awp_seq ?_
    refine awp_plain hN rfl ?_
    refine seq_run0 (stp_lss rfl rfl) ?_
    refine awp_seq ?_
    refine awp_cond _ rfl (fun h => ?_) (fun h => (lt_fI h8 h).elim)
    refine awp_skip ?_
    refine awp_seq ?_
    refine awp_block ?_
    refine awp_plain hN rfl ?_
    refine seq_run0 (stp_move (.dat _) rfl) ?_
    refine seq_run0 (stp_wrap _ rfl rfl (.inr (.inr ⟨rfl, rfl⟩))) ?_
    refine seq_run0 (stp_move (.dat _) rfl) ?_
    refine seq_run0 (stp_min rfl rfl) ?_
    refine seq_run0 (stp_assign (.dat _) rfl) ?_
    refine awp_plain hN rfl ?_
    refine seq_run0 (stp_add rfl rfl (by omega)) ?_
    refine seq_run0 (stp_move (.dat _) rfl) ?_
    exact ⟨_, backl H, ⟨rfl, rfl, rfl, rfl, trivial⟩, trivial⟩
theorem k_gateref2_MayOf_1 (l1 : (List Int)) (c2 : Int) (c3 : S_api_Budget) (r : (Int)) (H : m_gateref2_MayOf_1 l1 c2 c3 = some r) : Fn Try.prog 114 [vlst (List.map C_int l1), vcell [[vint c2]] 0 0, vcell [[vint c3.Window, vint c3.Least, vint c3.Part]] 0 0] (resOf [vint r]) := by
  refine ⟨by kernel_rfl, pure_of (us := [vint r]) Try.func114 rfl rfl rfl rfl fun X hN => ?_⟩
  unfold m_gateref2_MayOf_1 at H
  refine awp_seq ?_
  refine awp_plain hN rfl ?_
  refine seq_run0 (stp_assign (.dat _) rfl) ?_
  refine awp_seq ?_
  refine awp_plain hN rfl ?_
  refine seq_run0 (stp_assign (.dat _) rfl) ?_
  refine awp_seq ?_
  refine awp_seq ?_
  refine awp_plain hN rfl ?_
  refine seq_run0 (stp_move (.dat _) rfl) ?_
  refine seq_run0 (t_len tyU22 rfl) ?_
  refine seq_run0 (stp_move (.dat _) rfl) ?_
  refine awp_block ?_
  obtain ⟨h7, H⟩ := gif H
  refine awp_forL (fun (k5 : Nat) (s : Int) => [(1, .dat (vcell [[vint c2]] 0 0)), (2, .dat (vcell [[vint c3.Window, vint c3.Least, vint c3.Part]] 0 0)), (5, .dat (vint s)), (8, .dat (vlst (List.map C_int l1))), (9, .dat (vint (l1.length : Int))), (10, .dat (vint (k5 : Int)))]) (fun (k5 : Nat) (s : Int) => []) 0 H ⟨rfl, rfl, rfl, rfl, rfl, rfl, trivial⟩ trivial (fun _ _ => rfl) ?_ ?_
  · rintro n4 H
    replace H : gateref2_MayOf_1_E1 n4 = some r := H
    unfold gateref2_MayOf_1_E1 at H
    refine awp_seq ?_
    refine awp_plain hN rfl ?_
    refine seq_run0 (stp_lss rfl rfl) ?_
    refine awp_seq ?_
    refine awp_cond _ rfl (fun h => (lt_t h).elim) (fun h => ?_)
    refine awp_exit ?_
    refine awp_seq ?_
    refine awp_plain hN rfl ?_
    refine seq_run0 (stp_move (.dat _) rfl) ?_
    refine seq_run0 (stp_assign (.dat _) rfl) ?_
    refine awp_ret ?_
    cases H
    exact ⟨trivial, .inl rfl, trivial⟩
  · rintro k5 x8 n4 q6 h9 h10 H hq6
    replace H : gateref2_MayOf_1_L1 c2 c3 k5 x8 n4 = some q6 := H
    unfold gateref2_MayOf_1_L1 at H
    refine awp_seq ?_
    refine awp_plain hN rfl ?_
    refine seq_run0 (stp_lss rfl rfl) ?_
    refine awp_seq ?_
    refine awp_cond _ rfl (fun h => ?_) (fun h => (lt_f h9 h).elim)
    refine awp_skip ?_
    refine awp_joinE (ι := Int) (fun i => [(1, .dat (vcell [[vint c2]] 0 0)), (2, .dat (vcell [[vint c3.Window, vint c3.Least, vint c3.Part]] 0 0)), (5, .dat (vint i)), (8, .dat (vlst (List.map C_int l1))), (9, .dat (vint (l1.length : Int))), (10, .dat (vint (k5 : Int)))]) (fun i => []) (fun i => gateref2_MayOf_1_J2 i = some q6) (fun i => rfl) ?_ ?_
    · skip
      refine awp_block ?_
      refine awp_seq ?_
      refine awp_plain hN rfl ?_
      refine seq_run0 (t_idx tyE22 (fun _ => rfl) rfl rfl h10) ?_
      refine seq_run0 (stp_loadE1 tyS3 rfl (map_at h10) rfl) ?_
      refine seq_run0 (stp_assign (.dat _) rfl) ?_
      refine awp_seq ?_
      refine awp_plain hN rfl ?_
      refine seq_run0 (stp_move (.dat _) rfl) ?_
      refine seq_run0 (stp_loadE1 tyS3 rfl rfl rfl) ?_
      refine seq_run0 (stp_fldE tyF50_0 rfl) ?_
      refine seq_run0 (stp_loadE1 tyS3 rfl rfl rfl) ?_
      refine seq_run0 (stp_wrap _ rfl rfl (.inr (.inl ⟨rfl, rfl⟩))) ?_
      refine seq_run0 (stp_wrap _ rfl rfl (.inl ⟨rfl, rfl⟩)) ?_
      refine seq_run0 (stp_loadE1 tyS3 rfl rfl rfl) ?_
      obtain ⟨r11, h12, H⟩ := bnd H
      refine seq_run0 (stp_call (k_gateref2_in x8 (wr ((wr (c2 - c3.Window)) + 1)) c2 r11 h12) ⟨.inl rfl, .inl rfl, .inl rfl, trivial⟩) ?_
      refine awp_cond _ rfl (fun h13 => ?_) (fun h13 => ?_)
      · replace H := ift h13 H
        refine awp_plain hN rfl ?_
        refine seq_run0 (stp_move (.dat _) rfl) ?_
        refine seq_run0 (stp_wrap _ rfl rfl (.inl ⟨rfl, rfl⟩)) ?_
        refine seq_run0 (stp_assign (.dat _) rfl) ?_
        exact ⟨wr (n4 + 1), H, ⟨rfl, rfl, rfl, rfl, rfl, rfl, trivial⟩, trivial⟩
      · replace H := iff_ h13 H
        refine awp_skip ?_
        exact ⟨n4, H, ⟨rfl, rfl, rfl, rfl, rfl, rfl, trivial⟩, trivial⟩
    · rintro n14 H
      replace H : gateref2_MayOf_1_J2 n14 = some q6 := H
      unfold gateref2_MayOf_1_J2 at H
      refine awp_plain hN rfl ?_
      refine seq_run0 (stp_add rfl rfl (by omega)) ?_
      refine seq_run0 (stp_move (.dat _) rfl) ?_
      exact ⟨_, backl H, ⟨rfl, rfl, rfl, rfl, rfl, rfl, trivial⟩, trivial⟩
theorem k_gateref2_MayOf (b1 : S_api_Budget) (calls2 : (List Int)) (again3 : (List Int)) (v4 : Int) (r : (Bool)) (H : m_gateref2_MayOf b1 calls2 again3 v4 = some r) : Fn Try.prog 68 [vagg (C_api_Budget b1), vlst (List.map C_int calls2), vlst (List.map C_int again3), vint v4] (resOf [vbool r]) := by
  refine ⟨by kernel_rfl, pure_of (us := [vbool r]) Try.func68 rfl rfl rfl rfl fun X hN => ?_⟩
  unfold m_gateref2_MayOf at H
  refine awp_seq ?_
  refine awp_plain hN rfl ?_
  refine seq_run2 (stp_boxA 1 rfl) rfl ?_
  refine seq_run2 (stp_box1 2 rfl rfl) rfl ?_
  refine seq_run0 (stp_assign (.dat _) rfl) ?_
  refine awp_seq ?_
  refine awp_frzB 2 [vint v4] rfl rfl ?_
  refine awp_frzB 1 [vint b1.Window, vint b1.Least, vint b1.Part] rfl rfl ?_
  refine awp_plain hN rfl ?_
  refine seq_run0 (stp_mkfn (us := [_, _]) ⟨rfl, rfl, trivial⟩) ?_
  refine seq_run0 (stp_assign (.dat _) rfl) ?_
  refine awp_seq ?_
  refine awp_draw mixed hN rfl rfl ?_
  refine seq_run0 (stp_move (.dat _) rfl) ?_
  refine seq_run0 (stp_move (.dat _) rfl) ?_
  obtain ⟨r5, h6, H⟩ := bnd H
  refine seq_run0 (stp_callv (us := [vlst (List.map C_int again3)]) (cs := [vcell [[vint v4]] 0 0, vcell [[vint b1.Window, vint b1.Least, vint b1.Part]] 0 0]) (k_gateref2_MayOf_1 again3 v4 b1 r5 h6) rfl ⟨.inl rfl, trivial⟩) ?_
  refine seq_run0 (stp_fldE tyF50_1 rfl) ?_
  refine seq_run0 (stp_loadE1 tyS3 rfl rfl rfl) ?_
  refine seq_run0 (stp_fldE tyF50_2 rfl) ?_
  refine seq_run0 (stp_loadE1 tyS3 rfl rfl rfl) ?_
  refine seq_run0 (stp_move (.dat _) rfl) ?_
  refine seq_run0 (stp_move (.dat _) rfl) ?_
  obtain ⟨r7, h8, H⟩ := bnd H
  refine seq_run0 (stp_callv (us := [vlst (List.map C_int calls2)]) (cs := [vcell [[vint v4]] 0 0, vcell [[vint b1.Window, vint b1.Least, vint b1.Part]] 0 0]) (k_gateref2_MayOf_1 calls2 v4 b1 r7 h8) rfl ⟨.inl rfl, trivial⟩) ?_
  refine seq_run0 (stp_wrap _ rfl rfl (.inr (.inr ⟨rfl, rfl⟩))) ?_
  obtain ⟨h9, H⟩ := gif H
  refine seq_run0 (stp_quo rfl rfl h9.1 h9.2) ?_
  refine seq_run0 (stp_wrap _ rfl rfl (.inl ⟨rfl, rfl⟩)) ?_
  refine seq_run0 (stp_lss rfl rfl) ?_
  refine seq_run0 (stp_assign (.dat _) rfl) ?_
  refine ⟨rfl, ?_⟩
  refine awp_ret ?_
  cases H
  exact ⟨trivial, .inl rfl, trivial⟩
end Go.Proofs.Ytmcegaabopcmfaa
