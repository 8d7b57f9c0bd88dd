/- Walks along the models. Printed by a program. -/
import Derived.Test.YtmcegaabopcmfaaTc
namespace Go.Proofs.Ytmcegaabopcmfaa
open Go.RowKit
set_option linter.unusedVariables false
set_option maxRecDepth 20000
theorem k_gatemake_Below (x1 : Int) (n2 : Int) (r : (Int)) (H : m_gatemake_Below x1 n2 = some r) : Fn Try.prog 76 [vint x1, vint n2] (resOf [vint r]) := by
  refine ⟨by kernel_rfl, pure_of (us := [vint r]) Try.func76 rfl rfl rfl rfl fun X hN => ?_⟩
  unfold m_gatemake_Below at H
  refine awp_seq ?_
  refine awp_plain hN rfl ?_
  refine seq_run0 (stp_assign (.dat _) rfl) ?_
  refine awp_seq ?_
  refine awp_seq ?_
  refine awp_plain hN rfl ?_
  refine seq_run0 (stp_move (.dat _) rfl) ?_
  refine seq_run0 (stp_lss rfl rfl) ?_
  refine awp_cond _ rfl (fun h3 => ?_) (fun h3 => ?_)
  · replace H := ift h3 H
    refine awp_seq ?_
    refine awp_plain hN rfl ?_
    refine seq_run0 (stp_assign (.dat _) rfl) ?_
    refine awp_ret ?_
    cases H
    exact ⟨trivial, .inl rfl, trivial⟩
  · replace H := iff_ h3 H
    refine awp_skip ?_
    refine awp_seq ?_
    refine awp_plain hN rfl ?_
    refine seq_run0 (stp_move (.dat _) rfl) ?_
    refine seq_run0 (stp_move (.dat _) rfl) ?_
    obtain ⟨h4, H⟩ := gif H
    refine seq_run0 (stp_remT rfl rfl h4) ?_
    refine seq_run0 (stp_assign (.dat _) rfl) ?_
    refine awp_joinE (ι := Int) (fun i => [(0, .dat (vint i))]) (fun i => []) (fun i => gatemake_Below_J1 i = some r) (fun i => rfl) ?_ ?_
    · skip
      refine awp_seq ?_
      refine awp_plain hN rfl ?_
      refine seq_run0 (stp_move (.dat _) rfl) ?_
      refine seq_run0 (stp_lss rfl rfl) ?_
      refine awp_cond _ rfl (fun h5 => ?_) (fun h5 => ?_)
      · replace H := ift h5 H
        refine awp_plain hN rfl ?_
        refine seq_run0 (stp_move (.dat _) rfl) ?_
        refine seq_run0 (stp_move (.dat _) rfl) ?_
        refine seq_run0 (stp_wrap _ rfl rfl (.inl ⟨rfl, rfl⟩)) ?_
        refine seq_run0 (stp_assign (.dat _) rfl) ?_
        exact ⟨wr ((Int.tmod x1 n2) + n2), H, ⟨rfl, trivial⟩, trivial⟩
      · replace H := iff_ h5 H
        refine awp_skip ?_
        exact ⟨(Int.tmod x1 n2), H, ⟨rfl, trivial⟩, trivial⟩
    · rintro x6 H
      replace H : gatemake_Below_J1 x6 = some r := H
      unfold gatemake_Below_J1 at H
      refine awp_seq ?_
      refine awp_plain hN rfl ?_
      refine seq_run0 (stp_move (.dat _) rfl) ?_
      refine seq_run0 (stp_assign (.dat _) rfl) ?_
      refine awp_ret ?_
      cases H
      exact ⟨trivial, .inl rfl, trivial⟩
theorem k_gatemake_Stream_Next (s1 : S_gatemake_Stream) (n2 : Int) (r : (Int × S_gatemake_Stream)) (H : m_gatemake_Stream_Next s1 n2 = some r) : Imp Try.prog 16 25 (C_gatemake_Stream s1) [vint n2] (resOf [vint r.1]) (C_gatemake_Stream r.2) := by
  refine imp_of (us := [vint r.1]) (cs' := (C_gatemake_Stream r.2)) (by kernel_rfl) Try.func16 rfl rfl rfl rfl fun X bl hN => ?_
  unfold m_gatemake_Stream_Next at H
  refine awp_seq ?_
  refine awp_plain hN rfl ?_
  refine seq_run0 (stp_assign (.dat _) rfl) ?_
  refine awp_seq ?_
  refine awp_plain hN rfl ?_
  refine seq_run0 (stp_move (.ptr _ _) rfl) ?_
  refine seq_run0 (stp_nilP rfl) ?_
  refine seq_run0 (stp_fldP tyF25_1 rfl) ?_
  refine seq_run1 (stp_load1 tyS3 rfl rfl) rfl ?_
  refine seq_run0 (stp_wrap _ rfl rfl (.inl ⟨rfl, rfl⟩)) ?_
  refine seq_run0 (stp_nilP rfl) ?_
  refine seq_run0 (stp_fldP tyF25_1 rfl) ?_
  refine seq_run2 (stp_store1 tyS3 rfl rfl rfl rfl) rfl ?_
  refine awp_seq ?_
  refine awp_seq ?_
  refine awp_plain hN rfl ?_
  refine seq_run0 (stp_move (.ptr _ _) rfl) ?_
  refine seq_run0 (stp_nilP rfl) ?_
  refine seq_run0 (stp_fldP tyF25_0 rfl) ?_
  refine seq_run1 (stp_load1 tyS22 rfl rfl) rfl ?_
  refine seq_run0 (t_len tyU22 rfl) ?_
  refine seq_run0 (stp_eql rfl rfl) ?_
  refine awp_cond _ rfl (fun h3 => ?_) (fun h3 => ?_)
  · replace H := ift h3 H
    refine awp_seq ?_
    refine awp_plain hN rfl ?_
    refine seq_run0 (stp_move (.ptr _ _) rfl) ?_
    refine seq_run0 (stp_nilP rfl) ?_
    refine seq_run0 (stp_fldP tyF25_1 rfl) ?_
    refine seq_run1 (stp_load1 tyS3 rfl rfl) rfl ?_
    refine seq_run0 (stp_wrap _ rfl rfl (.inr (.inr ⟨rfl, rfl⟩))) ?_
    refine seq_run0 (stp_move (.dat _) rfl) ?_
    obtain ⟨r4, h5, H⟩ := bnd H
    refine seq_run0 (stp_call (k_gatemake_Below (wr ((wr (s1.at_ + 1)) * 7919)) n2 r4 h5) ⟨.inl rfl, .inl rfl, trivial⟩) ?_
    refine seq_run0 (stp_assign (.dat _) rfl) ?_
    refine awp_ret ?_
    cases H
    exact ⟨trivial, ⟨.inl rfl, trivial⟩, rfl⟩
  · replace H := iff_ h3 H
    refine awp_skip ?_
    refine awp_seq ?_
    refine awp_draw mixed hN rfl rfl ?_
    refine seq_run0 (stp_move (.ptr _ _) rfl) ?_
    refine seq_run0 (stp_nilP rfl) ?_
    refine seq_run0 (stp_fldP tyF25_1 rfl) ?_
    refine seq_run1 (stp_load1 tyS3 rfl rfl) rfl ?_
    refine seq_run0 (stp_wrap _ rfl rfl (.inr (.inl ⟨rfl, rfl⟩))) ?_
    refine seq_run0 (stp_move (.ptr _ _) rfl) ?_
    refine seq_run0 (stp_nilP rfl) ?_
    refine seq_run0 (stp_fldP tyF25_0 rfl) ?_
    refine seq_run1 (stp_load1 tyS22 rfl rfl) rfl ?_
    refine seq_run0 (t_len tyU22 rfl) ?_
    obtain ⟨h6, H⟩ := gif H
    refine seq_run0 (stp_remT rfl rfl h6) ?_
    refine seq_run0 (stp_assign (.dat _) rfl) ?_
    refine ⟨rfl, ?_⟩
    refine awp_seq ?_
    refine awp_draw mixed hN rfl rfl ?_
    refine seq_run0 (stp_move (.ptr _ _) rfl) ?_
    refine seq_run0 (stp_nilP rfl) ?_
    refine seq_run0 (stp_fldP tyF25_1 rfl) ?_
    refine seq_run1 (stp_load1 tyS3 rfl rfl) rfl ?_
    refine seq_run0 (stp_wrap _ rfl rfl (.inr (.inl ⟨rfl, rfl⟩))) ?_
    refine seq_run0 (stp_move (.ptr _ _) rfl) ?_
    refine seq_run0 (stp_nilP rfl) ?_
    refine seq_run0 (stp_fldP tyF25_0 rfl) ?_
    refine seq_run1 (stp_load1 tyS22 rfl rfl) rfl ?_
    refine seq_run0 (t_len tyU22 rfl) ?_
    obtain ⟨h7, H⟩ := gif H
    refine seq_run0 (stp_quo rfl rfl h7.1 h7.2) ?_
    refine seq_run0 (stp_assign (.dat _) rfl) ?_
    refine ⟨rfl, ?_⟩
    refine awp_seq ?_
    refine awp_plain hN rfl ?_
    refine seq_run0 (stp_move (.ptr _ _) rfl) ?_
    refine seq_run0 (stp_nilP rfl) ?_
    refine seq_run0 (stp_fldP tyF25_0 rfl) ?_
    refine seq_run1 (stp_load1 tyS22 rfl rfl) rfl ?_
    refine seq_run0 (stp_move (.dat _) rfl) ?_
    obtain ⟨x8, h9, H⟩ := bnd H
    refine seq_run0 (t_idxI tyE22 (fun _ => rfl) rfl rfl h9) ?_
    refine seq_run0 (stp_loadE1 tyS3 rfl (map_at (at_some h9).2) rfl) ?_
    obtain ⟨r10, h11, H⟩ := bnd H
    refine seq_run0 (stp_call (k_gatemake_Below x8 1073741824 r10 h11) ⟨.inl rfl, .inl rfl, trivial⟩) ?_
    refine seq_run0 (stp_move (.dat _) rfl) ?_
    refine seq_run0 (stp_move (.dat _) rfl) ?_
    refine seq_run0 (stp_wrap _ rfl rfl (.inl ⟨rfl, rfl⟩)) ?_
    refine seq_run0 (stp_wrap _ rfl rfl (.inr (.inr ⟨rfl, rfl⟩))) ?_
    refine seq_run0 (stp_wrap _ rfl rfl (.inl ⟨rfl, rfl⟩)) ?_
    refine seq_run0 (stp_move (.dat _) rfl) ?_
    obtain ⟨r12, h13, H⟩ := bnd H
    refine seq_run0 (stp_call (k_gatemake_Below (wr (r10 + (wr (((wr ((wr (s1.at_ + 1)) - 1)) / (s1.L.length : Int)) * (wr (7919 + (Int.tmod (wr ((wr (s1.at_ + 1)) - 1)) (s1.L.length : Int)))))))) n2 r12 h13) ⟨.inl rfl, .inl rfl, trivial⟩) ?_
    refine seq_run0 (stp_assign (.dat _) rfl) ?_
    refine awp_ret ?_
    cases H
    exact ⟨trivial, ⟨.inl rfl, trivial⟩, rfl⟩
theorem k_gatemake_Stream_Flip (s1 : S_gatemake_Stream) (n2 : Int) (r : (Bool × S_gatemake_Stream)) (H : m_gatemake_Stream_Flip s1 n2 = some r) : Imp Try.prog 15 25 (C_gatemake_Stream s1) [vint n2] (resOf [vbool r.1]) (C_gatemake_Stream r.2) := by
  refine imp_of (us := [vbool r.1]) (cs' := (C_gatemake_Stream r.2)) (by kernel_rfl) Try.func15 rfl rfl rfl rfl fun X bl hN => ?_
  unfold m_gatemake_Stream_Flip at H
  refine awp_seq ?_
  refine awp_plain hN rfl ?_
  refine seq_run0 (stp_assign (.dat _) rfl) ?_
  refine awp_seq ?_
  refine awp_plain hN rfl ?_
  refine seq_run0 (stp_move (.ptr _ _) rfl) ?_
  refine seq_run0 (stp_move (.dat _) rfl) ?_
  obtain ⟨r3, h4, H⟩ := bnd H
  refine seq_run2 (stp_imp (k_gatemake_Stream_Next s1 n2 r3 h4) rfl ⟨.inl rfl, trivial⟩ rfl) rfl ?_
  refine seq_run0 (stp_eql rfl rfl) ?_
  refine seq_run0 (stp_assign (.dat _) rfl) ?_
  refine awp_ret ?_
  cases H
  exact ⟨trivial, ⟨.inl rfl, trivial⟩, rfl⟩
theorem k_gatemake_Stream_Pick (s1 : S_gatemake_Stream) (l2 : (List Int)) (r : (Int × S_gatemake_Stream)) (H : m_gatemake_Stream_Pick s1 l2 = some r) : Imp Try.prog 14 25 (C_gatemake_Stream s1) [vlst (List.map C_int l2)] (resOf [vint r.1]) (C_gatemake_Stream r.2) := by
  refine imp_of (us := [vint r.1]) (cs' := (C_gatemake_Stream r.2)) (by kernel_rfl) Try.func14 rfl rfl rfl rfl fun X bl hN => ?_
  unfold m_gatemake_Stream_Pick at H
  refine awp_seq ?_
  refine awp_plain hN rfl ?_
  refine seq_run0 (stp_assign (.dat _) rfl) ?_
  refine awp_seq ?_
  refine awp_plain hN rfl ?_
  refine seq_run0 (stp_move (.dat _) rfl) ?_
  refine seq_run0 (stp_move (.ptr _ _) rfl) ?_
  refine seq_run0 (stp_move (.dat _) rfl) ?_
  refine seq_run0 (t_len tyU22 rfl) ?_
  obtain ⟨r3, h4, H⟩ := bnd H
  refine seq_run2 (stp_imp (k_gatemake_Stream_Next s1 (l2.length : Int) r3 h4) rfl ⟨.inl rfl, trivial⟩ rfl) rfl ?_
  obtain ⟨x5, h6, H⟩ := bnd H
  refine seq_run0 (t_idxI tyE22 (fun _ => rfl) rfl rfl h6) ?_
  refine seq_run0 (stp_loadE1 tyS3 rfl (map_at (at_some h6).2) rfl) ?_
  refine seq_run0 (stp_assign (.dat _) rfl) ?_
  refine awp_ret ?_
  cases H
  exact ⟨trivial, ⟨.inl rfl, trivial⟩, rfl⟩
theorem k_gatemake_Stream_RightInstances (s1 : S_gatemake_Stream) (r : ((List S_api_Instance) × S_gatemake_Stream)) (H : m_gatemake_Stream_RightInstances s1 = some r) : Imp Try.prog 98 25 (C_gatemake_Stream s1) [] (resOf [vlst (List.map C_api_Instance r.1)]) (C_gatemake_Stream r.2) := by
  refine imp_of (us := [vlst (List.map C_api_Instance r.1)]) (cs' := (C_gatemake_Stream r.2)) (by kernel_rfl) Try.func98 rfl rfl rfl rfl fun X bl hN => ?_
  unfold m_gatemake_Stream_RightInstances at H
  refine awp_seq ?_
  refine awp_plain hN rfl ?_
  refine seq_run0 (stp_assign (.dat _) rfl) ?_
  refine awp_seq ?_
  refine awp_plain hN rfl ?_
  refine seq_run0 (stp_assign (.dat _) rfl) ?_
  refine awp_seq ?_
  refine awp_seq ?_
  refine awp_plain hN rfl ?_
  refine seq_run0 (stp_dat (u' := vlst (List.map C_string [[105, 97], [105, 98], [105, 99], [105, 100]])) (stp_lit [[_], [_], [_], [_]] tyL73 ⟨rfl, .inl ⟨_, rfl, rfl, rfl⟩, rfl, rfl, .inl ⟨_, rfl, rfl, rfl⟩, rfl, rfl, .inl ⟨_, rfl, rfl, rfl⟩, rfl, rfl, .inl ⟨_, rfl, rfl, rfl⟩, rfl, trivial⟩ rfl rfl) rfl) ?_
  refine seq_run0 (t_len tyU73 rfl) ?_
  refine seq_run0 (stp_move (.dat _) rfl) ?_
  refine awp_block ?_
  refine awp_nilrow 3 1 114 2 rfl rfl rfl ?_
  obtain ⟨h7, H⟩ := gif H
  refine awp_forL (fun (k5 : Nat) (s : (List Int) × Int × (List S_api_Instance)) => [(0, .ptr 0 0), (3, .row 1 s.2.2.length), (6, .dat (vlst (List.map C_string ([[105, 97], [105, 98], [105, 99], [105, 100]])))), (7, .dat (vint (([[105, 97], [105, 98], [105, 99], [105, 100]]).length : Int))), (8, .dat (vint (k5 : Int)))]) (fun (k5 : Nat) (s : (List Int) × Int × (List S_api_Instance)) => [(0, .box (some bl) 25 [.dat (vlst (List.map C_int s.1)), .dat (vint s.2.1)]), (1, .row 114 2 (List.map C_api_Instance s.2.2))]) (s1.L, s1.at_, []) H ⟨rfl, congrArg (Slot.row 1) (by simp), rfl, rfl, rfl, trivial⟩ ⟨rfl, rfl, trivial⟩ (fun _ _ => rfl) ?_ ?_
  · rintro ⟨c2, c3, l4⟩ H
    replace H : gatemake_Stream_RightInstances_E1 c2 c3 l4 = some r := H
    unfold gatemake_Stream_RightInstances_E1 at H
    refine awp_seq ?_
    refine awp_plain hN rfl ?_
    refine seq_run0 (stp_lss rfl rfl) ?_
    refine awp_seq ?_
    refine awp_cond _ rfl (fun h => (lt_t h).elim) (fun h => ?_)
    refine awp_exit ?_
    refine awp_seq ?_
    refine awp_plain hN rfl ?_
    refine seq_run0 (stp_move (.row _ _) rfl) ?_
    refine seq_run0 (stp_assign (.row _ _) rfl) ?_
    refine awp_ret ?_
    cases H
    exact ⟨trivial, ⟨t_slotv rfl rfl, trivial⟩, rfl⟩
  · rintro k5 x8 ⟨c2, c3, l4⟩ q6 h9 h10 H hq6
    replace H : gatemake_Stream_RightInstances_L1 k5 x8 c2 c3 l4 = some q6 := H
    unfold gatemake_Stream_RightInstances_L1 at H
    refine awp_seq ?_
    refine awp_plain hN rfl ?_
    refine seq_run0 (stp_lss rfl rfl) ?_
    refine awp_seq ?_
    refine awp_cond _ rfl (fun h => ?_) (fun h => (lt_f h9 h).elim)
    refine awp_skip ?_
    refine awp_joinE (ι := (List S_api_Instance) × (List Int) × Int) (fun i => [(0, .ptr 0 0), (3, .row 1 i.1.length), (6, .dat (vlst (List.map C_string ([[105, 97], [105, 98], [105, 99], [105, 100]])))), (7, .dat (vint (([[105, 97], [105, 98], [105, 99], [105, 100]]).length : Int))), (8, .dat (vint (k5 : Int)))]) (fun i => [(0, .box (some bl) 25 [.dat (vlst (List.map C_int i.2.1)), .dat (vint i.2.2)]), (1, .row 114 2 (List.map C_api_Instance i.1))]) (fun i => gatemake_Stream_RightInstances_J2 i.1 i.2.1 i.2.2 = some q6) (fun i => rfl) ?_ ?_
    · skip
      refine awp_block ?_
      refine awp_seq ?_
      refine awp_plain hN rfl ?_
      refine seq_run0 (t_idx tyE73 (fun _ => rfl) rfl rfl h10) ?_
      refine seq_run0 (stp_loadE1 tyS9 rfl (map_at h10) rfl) ?_
      refine seq_run0 (stp_assign (.dat _) rfl) ?_
      refine awp_joinE (ι := Bool × (List Int) × Int) (fun i => [(0, .ptr 0 0), (3, .row 1 l4.length), (5, .dat (vstr x8)), (6, .dat (vlst (List.map C_string ([[105, 97], [105, 98], [105, 99], [105, 100]])))), (7, .dat (vint (([[105, 97], [105, 98], [105, 99], [105, 100]]).length : Int))), (8, .dat (vint (k5 : Int))), (23, .dat (vbool i.1))]) (fun i => [(0, .box (some bl) 25 [.dat (vlst (List.map C_int i.2.1)), .dat (vint i.2.2)]), (1, .row 114 2 (List.map C_api_Instance l4))]) (fun i => gatemake_Stream_RightInstances_J3 l4 x8 i.1 i.2.1 i.2.2 = some q6) (fun i => rfl) ?_ ?_
      · skip
        refine awp_plain hN rfl ?_
        refine seq_run0 (stp_move (.row _ _) rfl) ?_
        refine seq_run1 (t_lenR tyU48 rfl rfl) rfl ?_
        refine seq_run0 (stp_eql rfl rfl) ?_
        refine seq_run0 (stp_move (.dat _) rfl) ?_
        refine seq_split (j := 3) rfl rfl (fun h11 => ?_) (fun h11 => ?_) rfl
        · have h12 := un1 h11
          replace H := ift h12 H
          refine seq_g0 rfl rfl h11 (stp_move (.dat _) rfl) ?_
          refine seq_g0 rfl rfl h11 (stp_seql rfl rfl) ?_
          refine seq_run0 (stp_pick_t rfl (bTT h12) rfl) ?_
          refine seq_run0 (stp_move (.dat _) rfl) ?_
          refine seq_split (j := 7) rfl rfl (fun h13 => ?_) (fun h13 => ?_) rfl
          · have h14 := un3 h13
            replace H := iff_ h14 H
            refine seq_g0 rfl rfl h13 (stp_move (.ptr _ _) rfl) ?_
            obtain ⟨r15, h16, H⟩ := bnd H
            refine seq_g2 rfl rfl h13 (stp_imp (k_gatemake_Stream_Flip (S_gatemake_Stream.mk c2 c3) 4 r15 h16) rfl ⟨.inl rfl, trivial⟩ rfl) rfl ?_
            refine seq_g0 rfl rfl h13 (stp_not rfl) ?_
            refine seq_run0 (stp_pick_f rfl (bFF h14) rfl) ?_
            exact ⟨(!r15.1, r15.2.L, r15.2.at_), H, ⟨rfl, rfl, rfl, rfl, rfl, rfl, rfl, trivial⟩, ⟨rfl, rfl, trivial⟩⟩
          · have h17 := un4 h13
            replace H := ift h17 H
            refine seq_skip rfl rfl h13 ?_
            refine seq_skip rfl rfl h13 ?_
            refine seq_skip rfl rfl h13 ?_
            refine seq_run0 (stp_pick_t rfl (bTT h17) rfl) ?_
            exact ⟨(true, c2, c3), H, ⟨rfl, rfl, rfl, rfl, rfl, rfl, rfl, trivial⟩, ⟨rfl, rfl, trivial⟩⟩
        · have h18 := un2 h11
          replace H := iff_ h18 H
          refine seq_skip rfl rfl h11 ?_
          refine seq_skip rfl rfl h11 ?_
          refine seq_run0 (stp_pick_f rfl (bFF h18) rfl) ?_
          refine seq_run0 (stp_move (.dat _) rfl) ?_
          refine seq_g0 rfl rfl rfl (stp_move (.ptr _ _) rfl) ?_
          obtain ⟨r19, h20, H⟩ := bnd H
          refine seq_g2 rfl rfl rfl (stp_imp (k_gatemake_Stream_Flip (S_gatemake_Stream.mk c2 c3) 4 r19 h20) rfl ⟨.inl rfl, trivial⟩ rfl) rfl ?_
          refine seq_g0 rfl rfl rfl (stp_not rfl) ?_
          refine seq_run0 (stp_pick_f rfl rfl rfl) ?_
          exact ⟨(!r19.1, r19.2.L, r19.2.at_), H, ⟨rfl, rfl, rfl, rfl, rfl, rfl, rfl, trivial⟩, ⟨rfl, rfl, trivial⟩⟩
      · rintro ⟨v21, c22, c23⟩ H
        replace H : gatemake_Stream_RightInstances_J3 l4 x8 v21 c22 c23 = some q6 := H
        unfold gatemake_Stream_RightInstances_J3 at H
        refine awp_cond _ rfl (fun h24 => ?_) (fun h24 => ?_)
        · replace H := ift h24 H
          refine awp_plain hN rfl ?_
          refine seq_run0 (stp_move (.row _ _) rfl) ?_
          refine seq_run0 (stp_move (.dat _) rfl) ?_
          refine seq_run0 (stp_move (.ptr _ _) rfl) ?_
          refine seq_run0 (stp_dat (u' := vlst (List.map C_int [1, 1, 2, 3, 5])) (stp_lit [[_], [_], [_], [_], [_]] tyL22 ⟨rfl, .inl ⟨_, rfl, rfl, rfl⟩, rfl, rfl, .inl ⟨_, rfl, rfl, rfl⟩, rfl, rfl, .inl ⟨_, rfl, rfl, rfl⟩, rfl, rfl, .inl ⟨_, rfl, rfl, rfl⟩, rfl, rfl, .inl ⟨_, rfl, rfl, rfl⟩, rfl, trivial⟩ rfl rfl) rfl) ?_
          obtain ⟨r25, h26, H⟩ := bnd H
          refine seq_run2 (stp_imp (k_gatemake_Stream_Pick (S_gatemake_Stream.mk c22 c23) [1, 1, 2, 3, 5] r25 h26) rfl ⟨.inl rfl, trivial⟩ rfl) rfl ?_
          refine seq_run0 (stp_dat (u' := vagg (C_api_Instance (S_api_Instance.mk x8 r25.1))) (stp_build [(0, [vstr x8]), (1, [vint r25.1])] tyZ114 tyP114 rfl ⟨rfl, .inl ⟨_, rfl, rfl, rfl⟩, rfl, rfl, .inl ⟨_, rfl, rfl, rfl⟩, rfl, trivial⟩) rfl) ?_
          refine seq_run0 (stp_dat (u' := vlst (List.map C_api_Instance [(S_api_Instance.mk x8 r25.1)])) (stp_lit [_] tyL48 ⟨rfl, .inr rfl, rfl, trivial⟩ rfl rfl) rfl) ?_
          obtain ⟨h27, H⟩ := gif H
          refine seq_run2 (t_app tyL48 (fun _ => rfl) rfl rfl rfl ⟨by simp, by simpa using h27⟩ rfl) rfl ?_
          refine seq_run0 (stp_assign (.row _ _) rfl) ?_
          exact ⟨((l4 ++ [(S_api_Instance.mk x8 r25.1)]), r25.2.L, r25.2.at_), H, ⟨rfl, rfl, rfl, rfl, rfl, trivial⟩, ⟨rfl, rfl, trivial⟩⟩
        · replace H := iff_ h24 H
          refine awp_skip ?_
          exact ⟨(l4, c22, c23), H, ⟨rfl, rfl, rfl, rfl, rfl, trivial⟩, ⟨rfl, rfl, trivial⟩⟩
    · rintro ⟨out28, c29, c30⟩ H
      replace H : gatemake_Stream_RightInstances_J2 out28 c29 c30 = some q6 := H
      unfold gatemake_Stream_RightInstances_J2 at H
      refine awp_plain hN rfl ?_
      refine seq_run0 (stp_add rfl rfl (by omega)) ?_
      refine seq_run0 (stp_move (.dat _) rfl) ?_
      exact ⟨_, backl H, ⟨rfl, rfl, rfl, rfl, rfl, trivial⟩, ⟨rfl, rfl, trivial⟩⟩
theorem k_gatemake_Stream_RightBudget (s1 : S_gatemake_Stream) (r : (S_api_Budget × S_gatemake_Stream)) (H : m_gatemake_Stream_RightBudget s1 = some r) : Imp Try.prog 108 25 (C_gatemake_Stream s1) [] (resOf [vagg (C_api_Budget r.1)]) (C_gatemake_Stream r.2) := by
  refine imp_of (us := [vagg (C_api_Budget r.1)]) (cs' := (C_gatemake_Stream r.2)) (by kernel_rfl) Try.func108 rfl rfl rfl rfl fun X bl hN => ?_
  unfold m_gatemake_Stream_RightBudget at H
  refine awp_seq ?_
  refine awp_plain hN rfl ?_
  refine seq_run2 (stp_alloc 1 tyZ50 rfl) rfl ?_
  refine awp_seq ?_
  refine awp_plain hN rfl ?_
  refine seq_run0 (stp_move (.ptr _ _) rfl) ?_
  refine seq_run0 (stp_dat (u' := vlst (List.map C_int [1, 10, 50, 100, 1000])) (stp_lit [[_], [_], [_], [_], [_]] tyL22 ⟨rfl, .inl ⟨_, rfl, rfl, rfl⟩, rfl, rfl, .inl ⟨_, rfl, rfl, rfl⟩, rfl, rfl, .inl ⟨_, rfl, rfl, rfl⟩, rfl, rfl, .inl ⟨_, rfl, rfl, rfl⟩, rfl, rfl, .inl ⟨_, rfl, rfl, rfl⟩, rfl, trivial⟩ rfl rfl) rfl) ?_
  obtain ⟨r2, h3, H⟩ := bnd H
  refine seq_run2 (stp_imp (k_gatemake_Stream_Pick s1 [1, 10, 50, 100, 1000] r2 h3) rfl ⟨.inl rfl, trivial⟩ rfl) rfl ?_
  refine seq_run0 (stp_move (.ptr _ _) rfl) ?_
  refine seq_run0 (stp_dat (u' := vlst (List.map C_int [0, 1, 2, 5])) (stp_lit [[_], [_], [_], [_]] tyL22 ⟨rfl, .inl ⟨_, rfl, rfl, rfl⟩, rfl, rfl, .inl ⟨_, rfl, rfl, rfl⟩, rfl, rfl, .inl ⟨_, rfl, rfl, rfl⟩, rfl, rfl, .inl ⟨_, rfl, rfl, rfl⟩, rfl, trivial⟩ rfl rfl) rfl) ?_
  obtain ⟨r4, h5, H⟩ := bnd H
  refine seq_run2 (stp_imp (k_gatemake_Stream_Pick r2.2 [0, 1, 2, 5] r4 h5) rfl ⟨.inl rfl, trivial⟩ rfl) rfl ?_
  refine seq_run0 (stp_move (.ptr _ _) rfl) ?_
  refine seq_run0 (stp_dat (u' := vlst (List.map C_int [0, 100, 333, 500, 1000])) (stp_lit [[_], [_], [_], [_], [_]] tyL22 ⟨rfl, .inl ⟨_, rfl, rfl, rfl⟩, rfl, rfl, .inl ⟨_, rfl, rfl, rfl⟩, rfl, rfl, .inl ⟨_, rfl, rfl, rfl⟩, rfl, rfl, .inl ⟨_, rfl, rfl, rfl⟩, rfl, rfl, .inl ⟨_, rfl, rfl, rfl⟩, rfl, trivial⟩ rfl rfl) rfl) ?_
  obtain ⟨r6, h7, H⟩ := bnd H
  refine seq_run2 (stp_imp (k_gatemake_Stream_Pick r4.2 [0, 100, 333, 500, 1000] r6 h7) rfl ⟨.inl rfl, trivial⟩ rfl) rfl ?_
  refine seq_run0 (stp_dat (u' := vagg (C_api_Budget (S_api_Budget.mk r2.1 r4.1 r6.1))) (stp_build [(0, [vint r2.1]), (1, [vint r4.1]), (2, [vint r6.1])] tyZ50 tyP50 rfl ⟨rfl, .inl ⟨_, rfl, rfl, rfl⟩, rfl, rfl, .inl ⟨_, rfl, rfl, rfl⟩, rfl, rfl, .inl ⟨_, rfl, rfl, rfl⟩, rfl, trivial⟩) rfl) ?_
  refine seq_run2 (stp_storeW tyS50 rfl rfl rfl rfl) rfl ?_
  refine awp_ret ?_
  cases H
  exact ⟨trivial, ⟨⟨_, _, _, C_api_Budget (S_api_Budget.mk r2.1 r4.1 r6.1), rfl, rfl, rfl, rfl, tyS50⟩, trivial⟩, rfl⟩
theorem k_gatemake_Stream_RightOutliers (s1 : S_gatemake_Stream) (r : (S_api_Outliers × S_gatemake_Stream)) (H : m_gatemake_Stream_RightOutliers s1 = some r) : Imp Try.prog 102 25 (C_gatemake_Stream s1) [] (resOf [vagg (C_api_Outliers r.1)]) (C_gatemake_Stream r.2) := by
  refine imp_of (us := [vagg (C_api_Outliers r.1)]) (cs' := (C_gatemake_Stream r.2)) (by kernel_rfl) Try.func102 rfl rfl rfl rfl fun X bl hN => ?_
  unfold m_gatemake_Stream_RightOutliers at H
  refine awp_seq ?_
  refine awp_plain hN rfl ?_
  refine seq_run2 (stp_alloc 1 tyZ52 rfl) rfl ?_
  refine awp_seq ?_
  refine awp_plain hN rfl ?_
  refine seq_run0 (stp_move (.ptr _ _) rfl) ?_
  refine seq_run0 (stp_dat (u' := vlst (List.map C_int [1, 2, 2, 3])) (stp_lit [[_], [_], [_], [_]] tyL22 ⟨rfl, .inl ⟨_, rfl, rfl, rfl⟩, rfl, rfl, .inl ⟨_, rfl, rfl, rfl⟩, rfl, rfl, .inl ⟨_, rfl, rfl, rfl⟩, rfl, rfl, .inl ⟨_, rfl, rfl, rfl⟩, rfl, trivial⟩ rfl rfl) rfl) ?_
  obtain ⟨r2, h3, H⟩ := bnd H
  refine seq_run2 (stp_imp (k_gatemake_Stream_Pick s1 [1, 2, 2, 3] r2 h3) rfl ⟨.inl rfl, trivial⟩ rfl) rfl ?_
  refine seq_run0 (stp_move (.ptr _ _) rfl) ?_
  refine seq_run0 (stp_dat (u' := vlst (List.map C_int [1, 5, 10])) (stp_lit [[_], [_], [_]] tyL22 ⟨rfl, .inl ⟨_, rfl, rfl, rfl⟩, rfl, rfl, .inl ⟨_, rfl, rfl, rfl⟩, rfl, rfl, .inl ⟨_, rfl, rfl, rfl⟩, rfl, trivial⟩ rfl rfl) rfl) ?_
  obtain ⟨r4, h5, H⟩ := bnd H
  refine seq_run2 (stp_imp (k_gatemake_Stream_Pick r2.2 [1, 5, 10] r4 h5) rfl ⟨.inl rfl, trivial⟩ rfl) rfl ?_
  refine seq_run0 (stp_move (.ptr _ _) rfl) ?_
  refine seq_run0 (stp_dat (u' := vlst (List.map C_int [0, 333, 500, 1000])) (stp_lit [[_], [_], [_], [_]] tyL22 ⟨rfl, .inl ⟨_, rfl, rfl, rfl⟩, rfl, rfl, .inl ⟨_, rfl, rfl, rfl⟩, rfl, rfl, .inl ⟨_, rfl, rfl, rfl⟩, rfl, rfl, .inl ⟨_, rfl, rfl, rfl⟩, rfl, trivial⟩ rfl rfl) rfl) ?_
  obtain ⟨r6, h7, H⟩ := bnd H
  refine seq_run2 (stp_imp (k_gatemake_Stream_Pick r4.2 [0, 333, 500, 1000] r6 h7) rfl ⟨.inl rfl, trivial⟩ rfl) rfl ?_
  refine seq_run0 (stp_dat (u' := vagg (C_api_Outliers (S_api_Outliers.mk r2.1 r4.1 0 r6.1))) (stp_build [(0, [vint r2.1]), (1, [vint r4.1]), (3, [vint r6.1])] tyZ52 tyP52 rfl ⟨rfl, .inl ⟨_, rfl, rfl, rfl⟩, rfl, rfl, .inl ⟨_, rfl, rfl, rfl⟩, rfl, rfl, .inl ⟨_, rfl, rfl, rfl⟩, rfl, trivial⟩) rfl) ?_
  refine seq_run2 (stp_alloc 2 tyZ52 rfl) rfl ?_
  refine seq_run2 (stp_storeW tyS52 rfl rfl rfl rfl) rfl ?_
  refine awp_seq ?_
  refine awp_draw mixed hN rfl rfl ?_
  refine seq_run0 (stp_fldP tyF52_1 rfl) ?_
  refine seq_run1 (stp_load1 tyS3 rfl rfl) rfl ?_
  refine seq_run0 (stp_move (.ptr _ _) rfl) ?_
  refine seq_run0 (stp_dat (u' := vlst (List.map C_int [1, 2, 3, 8])) (stp_lit [[_], [_], [_], [_]] tyL22 ⟨rfl, .inl ⟨_, rfl, rfl, rfl⟩, rfl, rfl, .inl ⟨_, rfl, rfl, rfl⟩, rfl, rfl, .inl ⟨_, rfl, rfl, rfl⟩, rfl, rfl, .inl ⟨_, rfl, rfl, rfl⟩, rfl, trivial⟩ rfl rfl) rfl) ?_
  obtain ⟨r8, h9, H⟩ := bnd H
  refine seq_run2 (stp_imp (k_gatemake_Stream_Pick r6.2 [1, 2, 3, 8] r8 h9) rfl ⟨.inl rfl, trivial⟩ rfl) rfl ?_
  refine seq_run0 (stp_wrap _ rfl rfl (.inr (.inr ⟨rfl, rfl⟩))) ?_
  refine seq_run0 (stp_fldP tyF52_2 rfl) ?_
  refine seq_run2 (stp_store1 tyS3 rfl rfl rfl rfl) rfl ?_
  refine ⟨rfl, ?_⟩
  refine awp_seq ?_
  refine awp_plain hN rfl ?_
  refine seq_run1 (stp_loadA tyS52 rfl rfl rfl) rfl ?_
  refine seq_run2 (stp_storeW tyS52 rfl rfl rfl rfl) rfl ?_
  refine awp_ret ?_
  cases H
  exact ⟨trivial, ⟨⟨_, _, _, C_api_Outliers (S_api_Outliers.mk r2.1 r4.1 (wr (r4.1 * r8.1)) r6.1), rfl, rfl, rfl, rfl, tyS52⟩, trivial⟩, rfl⟩
theorem k_gatemake_Stream_RightSetup (s1 : S_gatemake_Stream) (r : (S_api_Setup × S_gatemake_Stream)) (H : m_gatemake_Stream_RightSetup s1 = some r) : Imp Try.prog 86 25 (C_gatemake_Stream s1) [] (resOf [vagg (C_api_Setup r.1)]) (C_gatemake_Stream r.2) := by
  refine imp_of (us := [vagg (C_api_Setup r.1)]) (cs' := (C_gatemake_Stream r.2)) (by kernel_rfl) Try.func86 rfl rfl rfl rfl fun X bl hN => ?_
  unfold m_gatemake_Stream_RightSetup at H
  refine awp_seq ?_
  refine awp_plain hN rfl ?_
  refine seq_run2 (stp_alloc 1 tyZ54 rfl) rfl ?_
  refine awp_seq ?_
  refine awp_plain hN rfl ?_
  refine seq_run0 (stp_move (.ptr _ _) rfl) ?_
  obtain ⟨r2, h3, H⟩ := bnd H
  refine seq_run2 (stp_imp (k_gatemake_Stream_RightInstances s1 r2 h3) rfl trivial rfl) rfl ?_
  refine seq_run0 (stp_move (.ptr _ _) rfl) ?_
  refine seq_run0 (stp_dat (u' := vlst (List.map C_int [1, 2, 3, 5])) (stp_lit [[_], [_], [_], [_]] tyL22 ⟨rfl, .inl ⟨_, rfl, rfl, rfl⟩, rfl, rfl, .inl ⟨_, rfl, rfl, rfl⟩, rfl, rfl, .inl ⟨_, rfl, rfl, rfl⟩, rfl, rfl, .inl ⟨_, rfl, rfl, rfl⟩, rfl, trivial⟩ rfl rfl) rfl) ?_
  obtain ⟨r4, h5, H⟩ := bnd H
  refine seq_run2 (stp_imp (k_gatemake_Stream_Pick r2.2 [1, 2, 3, 5] r4 h5) rfl ⟨.inl rfl, trivial⟩ rfl) rfl ?_
  refine seq_run0 (stp_move (.ptr _ _) rfl) ?_
  refine seq_run0 (stp_dat (u' := vlst (List.map C_int [1, 10, 20, 50])) (stp_lit [[_], [_], [_], [_]] tyL22 ⟨rfl, .inl ⟨_, rfl, rfl, rfl⟩, rfl, rfl, .inl ⟨_, rfl, rfl, rfl⟩, rfl, rfl, .inl ⟨_, rfl, rfl, rfl⟩, rfl, rfl, .inl ⟨_, rfl, rfl, rfl⟩, rfl, trivial⟩ rfl rfl) rfl) ?_
  obtain ⟨r6, h7, H⟩ := bnd H
  refine seq_run2 (stp_imp (k_gatemake_Stream_Pick r4.2 [1, 10, 20, 50] r6 h7) rfl ⟨.inl rfl, trivial⟩ rfl) rfl ?_
  refine seq_run0 (stp_move (.ptr _ _) rfl) ?_
  refine seq_run0 (stp_dat (u' := vlst (List.map C_int [0, 0, 5, 10])) (stp_lit [[_], [_], [_], [_]] tyL22 ⟨rfl, .inl ⟨_, rfl, rfl, rfl⟩, rfl, rfl, .inl ⟨_, rfl, rfl, rfl⟩, rfl, rfl, .inl ⟨_, rfl, rfl, rfl⟩, rfl, rfl, .inl ⟨_, rfl, rfl, rfl⟩, rfl, trivial⟩ rfl rfl) rfl) ?_
  obtain ⟨r8, h9, H⟩ := bnd H
  refine seq_run2 (stp_imp (k_gatemake_Stream_Pick r6.2 [0, 0, 5, 10] r8 h9) rfl ⟨.inl rfl, trivial⟩ rfl) rfl ?_
  refine seq_run0 (stp_move (.ptr _ _) rfl) ?_
  obtain ⟨r10, h11, H⟩ := bnd H
  refine seq_run2 (stp_imp (k_gatemake_Stream_RightBudget r8.2 r10 h11) rfl trivial rfl) rfl ?_
  refine seq_run0 (stp_move (.ptr _ _) rfl) ?_
  obtain ⟨r12, h13, H⟩ := bnd H
  refine seq_run2 (stp_imp (k_gatemake_Stream_RightOutliers r10.2 r12 h13) rfl trivial rfl) rfl ?_
  refine seq_run0 (stp_dat (u' := vagg (C_api_Setup (S_api_Setup.mk r2.1 r4.1 r6.1 r8.1 0 r10.1 r12.1))) (stp_build [(0, [vlst (List.map C_api_Instance r2.1)]), (1, [vint r4.1]), (2, [vint r6.1]), (3, [vint r8.1]), (5, C_api_Budget r10.1), (8, C_api_Outliers r12.1)] tyZ54 tyP54 rfl ⟨rfl, .inl ⟨_, rfl, rfl, rfl⟩, rfl, rfl, .inl ⟨_, rfl, rfl, rfl⟩, rfl, rfl, .inl ⟨_, rfl, rfl, rfl⟩, rfl, rfl, .inl ⟨_, rfl, rfl, rfl⟩, rfl, rfl, .inr rfl, rfl, rfl, .inr rfl, rfl, trivial⟩) rfl) ?_
  refine seq_run2 (stp_alloc 2 tyZ54 rfl) rfl ?_
  refine seq_run2 (stp_storeW tyS54 rfl rfl rfl rfl) rfl ?_
  refine awp_seq ?_
  refine awp_draw mixed hN rfl rfl ?_
  refine seq_run0 (stp_fldP tyF54_3 rfl) ?_
  refine seq_run1 (stp_load1 tyS3 rfl rfl) rfl ?_
  refine seq_run0 (stp_move (.ptr _ _) rfl) ?_
  refine seq_run0 (stp_dat (u' := vlst (List.map C_int [1, 2, 4])) (stp_lit [[_], [_], [_]] tyL22 ⟨rfl, .inl ⟨_, rfl, rfl, rfl⟩, rfl, rfl, .inl ⟨_, rfl, rfl, rfl⟩, rfl, rfl, .inl ⟨_, rfl, rfl, rfl⟩, rfl, trivial⟩ rfl rfl) rfl) ?_
  obtain ⟨r14, h15, H⟩ := bnd H
  refine seq_run2 (stp_imp (k_gatemake_Stream_Pick r12.2 [1, 2, 4] r14 h15) rfl ⟨.inl rfl, trivial⟩ rfl) rfl ?_
  refine seq_run0 (stp_wrap _ rfl rfl (.inr (.inr ⟨rfl, rfl⟩))) ?_
  refine seq_run0 (stp_fldP tyF54_4 rfl) ?_
  refine seq_run2 (stp_store1 tyS3 rfl rfl rfl rfl) rfl ?_
  refine ⟨rfl, ?_⟩
  refine awp_seq ?_
  refine awp_plain hN rfl ?_
  refine seq_run1 (stp_loadA tyS54 rfl rfl rfl) rfl ?_
  refine seq_run2 (stp_storeW tyS54 rfl rfl rfl rfl) rfl ?_
  refine awp_ret ?_
  cases H
  exact ⟨trivial, ⟨⟨_, _, _, C_api_Setup (S_api_Setup.mk r2.1 r4.1 r6.1 r8.1 (wr (r8.1 * r14.1)) r10.1 r12.1), rfl, rfl, rfl, rfl, tyS54⟩, trivial⟩, rfl⟩
theorem k_gatemake_Stream_Some (s1 : S_gatemake_Stream) (l2 : (List Bs)) (r : (Bs × S_gatemake_Stream)) (H : m_gatemake_Stream_Some s1 l2 = some r) : Imp Try.prog 69 25 (C_gatemake_Stream s1) [vlst (List.map C_string l2)] (resOf [vstr r.1]) (C_gatemake_Stream r.2) := by
  refine imp_of (us := [vstr r.1]) (cs' := (C_gatemake_Stream r.2)) (by kernel_rfl) Try.func69 rfl rfl rfl rfl fun X bl hN => ?_
  unfold m_gatemake_Stream_Some at H
  refine awp_seq ?_
  refine awp_plain hN rfl ?_
  refine seq_run0 (stp_assign (.dat _) rfl) ?_
  refine awp_seq ?_
  refine awp_plain hN rfl ?_
  refine seq_run0 (stp_move (.dat _) rfl) ?_
  refine seq_run0 (stp_move (.ptr _ _) rfl) ?_
  refine seq_run0 (stp_move (.dat _) rfl) ?_
  refine seq_run0 (t_len tyU73 rfl) ?_
  obtain ⟨r3, h4, H⟩ := bnd H
  refine seq_run2 (stp_imp (k_gatemake_Stream_Next s1 (l2.length : Int) r3 h4) rfl ⟨.inl rfl, trivial⟩ rfl) rfl ?_
  obtain ⟨x5, h6, H⟩ := bnd H
  refine seq_run0 (t_idxI tyE73 (fun _ => rfl) rfl rfl h6) ?_
  refine seq_run0 (stp_loadE1 tyS9 rfl (map_at (at_some h6).2) rfl) ?_
  refine seq_run0 (stp_assign (.dat _) rfl) ?_
  refine awp_ret ?_
  cases H
  exact ⟨trivial, ⟨.inl rfl, trivial⟩, rfl⟩
theorem k_gatemake_Stream_Range (s1 : S_gatemake_Stream) (low2 : Int) (high3 : Int) (r : (Int × S_gatemake_Stream)) (H : m_gatemake_Stream_Range s1 low2 high3 = some r) : Imp Try.prog 13 25 (C_gatemake_Stream s1) [vint low2, vint high3] (resOf [vint r.1]) (C_gatemake_Stream r.2) := by
  refine imp_of (us := [vint r.1]) (cs' := (C_gatemake_Stream r.2)) (by kernel_rfl) Try.func13 rfl rfl rfl rfl fun X bl hN => ?_
  unfold m_gatemake_Stream_Range at H
  refine awp_seq ?_
  refine awp_plain hN rfl ?_
  refine seq_run0 (stp_assign (.dat _) rfl) ?_
  refine awp_seq ?_
  refine awp_seq ?_
  refine awp_plain hN rfl ?_
  refine seq_run0 (stp_move (.dat _) rfl) ?_
  refine seq_run0 (stp_move (.dat _) rfl) ?_
  refine seq_run0 (stp_lss rfl rfl) ?_
  refine awp_cond _ rfl (fun h4 => ?_) (fun h4 => ?_)
  · replace H := ift h4 H
    refine awp_seq ?_
    refine awp_plain hN rfl ?_
    refine seq_run0 (stp_move (.dat _) rfl) ?_
    refine seq_run0 (stp_assign (.dat _) rfl) ?_
    refine awp_ret ?_
    cases H
    exact ⟨trivial, ⟨.inl rfl, trivial⟩, rfl⟩
  · replace H := iff_ h4 H
    refine awp_skip ?_
    refine awp_seq ?_
    refine awp_plain hN rfl ?_
    refine seq_run0 (stp_move (.dat _) rfl) ?_
    refine seq_run0 (stp_move (.ptr _ _) rfl) ?_
    refine seq_run0 (stp_move (.dat _) rfl) ?_
    refine seq_run0 (stp_move (.dat _) rfl) ?_
    refine seq_run0 (stp_wrap _ rfl rfl (.inr (.inl ⟨rfl, rfl⟩))) ?_
    refine seq_run0 (stp_wrap _ rfl rfl (.inl ⟨rfl, rfl⟩)) ?_
    obtain ⟨r5, h6, H⟩ := bnd H
    refine seq_run2 (stp_imp (k_gatemake_Stream_Next s1 (wr ((wr (high3 - low2)) + 1)) r5 h6) rfl ⟨.inl rfl, trivial⟩ rfl) rfl ?_
    refine seq_run0 (stp_wrap _ rfl rfl (.inl ⟨rfl, rfl⟩)) ?_
    refine seq_run0 (stp_assign (.dat _) rfl) ?_
    refine awp_ret ?_
    cases H
    exact ⟨trivial, ⟨.inl rfl, trivial⟩, rfl⟩
theorem k_gatemake_Stream_Odd (s1 : S_gatemake_Stream) (low2 : Int) (high3 : Int) (r : (Int × S_gatemake_Stream)) (H : m_gatemake_Stream_Odd s1 low2 high3 = some r) : Imp Try.prog 55 25 (C_gatemake_Stream s1) [vint low2, vint high3] (resOf [vint r.1]) (C_gatemake_Stream r.2) := by
  refine imp_of (us := [vint r.1]) (cs' := (C_gatemake_Stream r.2)) (by kernel_rfl) Try.func55 rfl rfl rfl rfl fun X bl hN => ?_
  unfold m_gatemake_Stream_Odd at H
  refine awp_seq ?_
  refine awp_plain hN rfl ?_
  refine seq_run0 (stp_assign (.dat _) rfl) ?_
  refine awp_seq ?_
  refine awp_seq ?_
  refine awp_plain hN rfl ?_
  refine seq_run0 (stp_move (.ptr _ _) rfl) ?_
  obtain ⟨r4, h5, H⟩ := bnd H
  refine seq_run2 (stp_imp (k_gatemake_Stream_Flip s1 12 r4 h5) rfl ⟨.inl rfl, trivial⟩ rfl) rfl ?_
  refine awp_cond _ rfl (fun h6 => ?_) (fun h6 => ?_)
  · replace H := ift h6 H
    refine awp_seq ?_
    refine awp_plain hN rfl ?_
    refine seq_run0 (stp_move (.ptr _ _) rfl) ?_
    refine seq_run0 (stp_move (.dat _) rfl) ?_
    refine seq_run0 (stp_wrap _ rfl rfl (.inr (.inl ⟨rfl, rfl⟩))) ?_
    refine seq_run0 (stp_move (.dat _) rfl) ?_
    refine seq_run0 (stp_wrap _ rfl rfl (.inl ⟨rfl, rfl⟩)) ?_
    refine seq_run0 (stp_move (.dat _) rfl) ?_
    refine seq_run0 (stp_move (.dat _) rfl) ?_
    refine seq_run0 (stp_dat (u' := vlst (List.map C_int [wr (low2 - 1), wr (high3 + 1), low2, high3, (-1099511627776), 1099511627776])) (stp_lit [[_], [_], [_], [_], [_], [_]] tyL22 ⟨rfl, .inl ⟨_, rfl, rfl, rfl⟩, rfl, rfl, .inl ⟨_, rfl, rfl, rfl⟩, rfl, rfl, .inl ⟨_, rfl, rfl, rfl⟩, rfl, rfl, .inl ⟨_, rfl, rfl, rfl⟩, rfl, rfl, .inl ⟨_, rfl, rfl, rfl⟩, rfl, rfl, .inl ⟨_, rfl, rfl, rfl⟩, rfl, trivial⟩ rfl rfl) rfl) ?_
    obtain ⟨r7, h8, H⟩ := bnd H
    refine seq_run2 (stp_imp (k_gatemake_Stream_Pick r4.2 [wr (low2 - 1), wr (high3 + 1), low2, high3, (-1099511627776), 1099511627776] r7 h8) rfl ⟨.inl rfl, trivial⟩ rfl) rfl ?_
    refine seq_run0 (stp_assign (.dat _) rfl) ?_
    refine awp_ret ?_
    cases H
    exact ⟨trivial, ⟨.inl rfl, trivial⟩, rfl⟩
  · replace H := iff_ h6 H
    refine awp_skip ?_
    refine awp_seq ?_
    refine awp_plain hN rfl ?_
    refine seq_run0 (stp_move (.ptr _ _) rfl) ?_
    refine seq_run0 (stp_move (.dat _) rfl) ?_
    refine seq_run0 (stp_move (.dat _) rfl) ?_
    obtain ⟨r9, h10, H⟩ := bnd H
    refine seq_run2 (stp_imp (k_gatemake_Stream_Range r4.2 low2 high3 r9 h10) rfl ⟨.inl rfl, .inl rfl, trivial⟩ rfl) rfl ?_
    refine seq_run0 (stp_assign (.dat _) rfl) ?_
    refine awp_ret ?_
    cases H
    exact ⟨trivial, ⟨.inl rfl, trivial⟩, rfl⟩
theorem kr_gatemake_Stream_RightInstances (s1 : S_gatemake_Stream) (r : ((List S_api_Instance) × S_gatemake_Stream)) (H : m_gatemake_Stream_RightInstances s1 = some r) : FnG Try.prog 98 [.ptr 0 0] [(0, .box (some 0) 25 (List.map .dat (C_gatemake_Stream s1)))] (.row 1 r.1.length) [(0, .box (some 0) 25 (List.map .dat (C_gatemake_Stream r.2))), (1, .row 114 2 (List.map C_api_Instance r.1))] := by
  refine fnG_of (by kernel_rfl) Try.func98 rfl rfl rfl rfl fun X A hN => ?_
  unfold m_gatemake_Stream_RightInstances at H
  refine awp_seq ?_
  refine awp_plain hN rfl ?_
  refine seq_run0 (stp_assign (.dat _) rfl) ?_
  refine awp_seq ?_
  refine awp_plain hN rfl ?_
  refine seq_run0 (stp_assign (.dat _) rfl) ?_
  refine awp_seq ?_
  refine awp_seq ?_
  refine awp_plain hN rfl ?_
  refine seq_run0 (stp_dat (u' := vlst (List.map C_string [[105, 97], [105, 98], [105, 99], [105, 100]])) (stp_lit [[_], [_], [_], [_]] tyL73 ⟨rfl, .inl ⟨_, rfl, rfl, rfl⟩, rfl, rfl, .inl ⟨_, rfl, rfl, rfl⟩, rfl, rfl, .inl ⟨_, rfl, rfl, rfl⟩, rfl, rfl, .inl ⟨_, rfl, rfl, rfl⟩, rfl, trivial⟩ rfl rfl) rfl) ?_
  refine seq_run0 (t_len tyU73 rfl) ?_
  refine seq_run0 (stp_move (.dat _) rfl) ?_
  refine awp_block ?_
  refine awp_nilrow 3 1 114 2 rfl rfl rfl ?_
  obtain ⟨h7, H⟩ := gif H
  refine awp_forL (fun (k5 : Nat) (s : (List Int) × Int × (List S_api_Instance)) => [(0, .ptr 0 0), (3, .row 1 s.2.2.length), (6, .dat (vlst (List.map C_string ([[105, 97], [105, 98], [105, 99], [105, 100]])))), (7, .dat (vint (([[105, 97], [105, 98], [105, 99], [105, 100]]).length : Int))), (8, .dat (vint (k5 : Int)))]) (fun (k5 : Nat) (s : (List Int) × Int × (List S_api_Instance)) => [(0, .box (some (A.bl 0)) 25 [.dat (vlst (List.map C_int s.1)), .dat (vint s.2.1)]), (1, .row 114 2 (List.map C_api_Instance s.2.2))]) (s1.L, s1.at_, []) H ⟨rfl, congrArg (Slot.row 1) (by simp), rfl, rfl, rfl, trivial⟩ ⟨rfl, rfl, trivial⟩ (fun _ _ => rfl) ?_ ?_
  · rintro ⟨c2, c3, l4⟩ H
    replace H : gatemake_Stream_RightInstances_E1 c2 c3 l4 = some r := H
    unfold gatemake_Stream_RightInstances_E1 at H
    refine awp_seq ?_
    refine awp_plain hN rfl ?_
    refine seq_run0 (stp_lss rfl rfl) ?_
    refine awp_seq ?_
    refine awp_cond _ rfl (fun h => (lt_t h).elim) (fun h => ?_)
    refine awp_exit ?_
    refine awp_seq ?_
    refine awp_plain hN rfl ?_
    refine seq_run0 (stp_move (.row _ _) rfl) ?_
    refine seq_run0 (stp_assign (.row _ _) rfl) ?_
    refine awp_ret ?_
    cases H
    exact ⟨trivial, [(2, .row 1 l4.length)], ⟨rfl, trivial⟩, ⟨rfl, rfl, trivial⟩, rfl, .inr ⟨2, rfl, rfl⟩⟩
  · rintro k5 x8 ⟨c2, c3, l4⟩ q6 h9 h10 H hq6
    replace H : gatemake_Stream_RightInstances_L1 k5 x8 c2 c3 l4 = some q6 := H
    unfold gatemake_Stream_RightInstances_L1 at H
    refine awp_seq ?_
    refine awp_plain hN rfl ?_
    refine seq_run0 (stp_lss rfl rfl) ?_
    refine awp_seq ?_
    refine awp_cond _ rfl (fun h => ?_) (fun h => (lt_f h9 h).elim)
    refine awp_skip ?_
    refine awp_joinE (ι := (List S_api_Instance) × (List Int) × Int) (fun i => [(0, .ptr 0 0), (3, .row 1 i.1.length), (6, .dat (vlst (List.map C_string ([[105, 97], [105, 98], [105, 99], [105, 100]])))), (7, .dat (vint (([[105, 97], [105, 98], [105, 99], [105, 100]]).length : Int))), (8, .dat (vint (k5 : Int)))]) (fun i => [(0, .box (some (A.bl 0)) 25 [.dat (vlst (List.map C_int i.2.1)), .dat (vint i.2.2)]), (1, .row 114 2 (List.map C_api_Instance i.1))]) (fun i => gatemake_Stream_RightInstances_J2 i.1 i.2.1 i.2.2 = some q6) (fun i => rfl) ?_ ?_
    · skip
      refine awp_block ?_
      refine awp_seq ?_
      refine awp_plain hN rfl ?_
      refine seq_run0 (t_idx tyE73 (fun _ => rfl) rfl rfl h10) ?_
      refine seq_run0 (stp_loadE1 tyS9 rfl (map_at h10) rfl) ?_
      refine seq_run0 (stp_assign (.dat _) rfl) ?_
      refine awp_joinE (ι := Bool × (List Int) × Int) (fun i => [(0, .ptr 0 0), (3, .row 1 l4.length), (5, .dat (vstr x8)), (6, .dat (vlst (List.map C_string ([[105, 97], [105, 98], [105, 99], [105, 100]])))), (7, .dat (vint (([[105, 97], [105, 98], [105, 99], [105, 100]]).length : Int))), (8, .dat (vint (k5 : Int))), (23, .dat (vbool i.1))]) (fun i => [(0, .box (some (A.bl 0)) 25 [.dat (vlst (List.map C_int i.2.1)), .dat (vint i.2.2)]), (1, .row 114 2 (List.map C_api_Instance l4))]) (fun i => gatemake_Stream_RightInstances_J3 l4 x8 i.1 i.2.1 i.2.2 = some q6) (fun i => rfl) ?_ ?_
      · skip
        refine awp_plain hN rfl ?_
        refine seq_run0 (stp_move (.row _ _) rfl) ?_
        refine seq_run1 (t_lenR tyU48 rfl rfl) rfl ?_
        refine seq_run0 (stp_eql rfl rfl) ?_
        refine seq_run0 (stp_move (.dat _) rfl) ?_
        refine seq_split (j := 3) rfl rfl (fun h11 => ?_) (fun h11 => ?_) rfl
        · have h12 := un1 h11
          replace H := ift h12 H
          refine seq_g0 rfl rfl h11 (stp_move (.dat _) rfl) ?_
          refine seq_g0 rfl rfl h11 (stp_seql rfl rfl) ?_
          refine seq_run0 (stp_pick_t rfl (bTT h12) rfl) ?_
          refine seq_run0 (stp_move (.dat _) rfl) ?_
          refine seq_split (j := 7) rfl rfl (fun h13 => ?_) (fun h13 => ?_) rfl
          · have h14 := un3 h13
            replace H := iff_ h14 H
            refine seq_g0 rfl rfl h13 (stp_move (.ptr _ _) rfl) ?_
            obtain ⟨r15, h16, H⟩ := bnd H
            refine seq_g2 rfl rfl h13 (stp_imp (k_gatemake_Stream_Flip (S_gatemake_Stream.mk c2 c3) 4 r15 h16) rfl ⟨.inl rfl, trivial⟩ rfl) rfl ?_
            refine seq_g0 rfl rfl h13 (stp_not rfl) ?_
            refine seq_run0 (stp_pick_f rfl (bFF h14) rfl) ?_
            exact ⟨(!r15.1, r15.2.L, r15.2.at_), H, ⟨rfl, rfl, rfl, rfl, rfl, rfl, rfl, trivial⟩, ⟨rfl, rfl, trivial⟩⟩
          · have h17 := un4 h13
            replace H := ift h17 H
            refine seq_skip rfl rfl h13 ?_
            refine seq_skip rfl rfl h13 ?_
            refine seq_skip rfl rfl h13 ?_
            refine seq_run0 (stp_pick_t rfl (bTT h17) rfl) ?_
            exact ⟨(true, c2, c3), H, ⟨rfl, rfl, rfl, rfl, rfl, rfl, rfl, trivial⟩, ⟨rfl, rfl, trivial⟩⟩
        · have h18 := un2 h11
          replace H := iff_ h18 H
          refine seq_skip rfl rfl h11 ?_
          refine seq_skip rfl rfl h11 ?_
          refine seq_run0 (stp_pick_f rfl (bFF h18) rfl) ?_
          refine seq_run0 (stp_move (.dat _) rfl) ?_
          refine seq_g0 rfl rfl rfl (stp_move (.ptr _ _) rfl) ?_
          obtain ⟨r19, h20, H⟩ := bnd H
          refine seq_g2 rfl rfl rfl (stp_imp (k_gatemake_Stream_Flip (S_gatemake_Stream.mk c2 c3) 4 r19 h20) rfl ⟨.inl rfl, trivial⟩ rfl) rfl ?_
          refine seq_g0 rfl rfl rfl (stp_not rfl) ?_
          refine seq_run0 (stp_pick_f rfl rfl rfl) ?_
          exact ⟨(!r19.1, r19.2.L, r19.2.at_), H, ⟨rfl, rfl, rfl, rfl, rfl, rfl, rfl, trivial⟩, ⟨rfl, rfl, trivial⟩⟩
      · rintro ⟨v21, c22, c23⟩ H
        replace H : gatemake_Stream_RightInstances_J3 l4 x8 v21 c22 c23 = some q6 := H
        unfold gatemake_Stream_RightInstances_J3 at H
        refine awp_cond _ rfl (fun h24 => ?_) (fun h24 => ?_)
        · replace H := ift h24 H
          refine awp_plain hN rfl ?_
          refine seq_run0 (stp_move (.row _ _) rfl) ?_
          refine seq_run0 (stp_move (.dat _) rfl) ?_
          refine seq_run0 (stp_move (.ptr _ _) rfl) ?_
          refine seq_run0 (stp_dat (u' := vlst (List.map C_int [1, 1, 2, 3, 5])) (stp_lit [[_], [_], [_], [_], [_]] tyL22 ⟨rfl, .inl ⟨_, rfl, rfl, rfl⟩, rfl, rfl, .inl ⟨_, rfl, rfl, rfl⟩, rfl, rfl, .inl ⟨_, rfl, rfl, rfl⟩, rfl, rfl, .inl ⟨_, rfl, rfl, rfl⟩, rfl, rfl, .inl ⟨_, rfl, rfl, rfl⟩, rfl, trivial⟩ rfl rfl) rfl) ?_
          obtain ⟨r25, h26, H⟩ := bnd H
          refine seq_run2 (stp_imp (k_gatemake_Stream_Pick (S_gatemake_Stream.mk c22 c23) [1, 1, 2, 3, 5] r25 h26) rfl ⟨.inl rfl, trivial⟩ rfl) rfl ?_
          refine seq_run0 (stp_dat (u' := vagg (C_api_Instance (S_api_Instance.mk x8 r25.1))) (stp_build [(0, [vstr x8]), (1, [vint r25.1])] tyZ114 tyP114 rfl ⟨rfl, .inl ⟨_, rfl, rfl, rfl⟩, rfl, rfl, .inl ⟨_, rfl, rfl, rfl⟩, rfl, trivial⟩) rfl) ?_
          refine seq_run0 (stp_dat (u' := vlst (List.map C_api_Instance [(S_api_Instance.mk x8 r25.1)])) (stp_lit [_] tyL48 ⟨rfl, .inr rfl, rfl, trivial⟩ rfl rfl) rfl) ?_
          obtain ⟨h27, H⟩ := gif H
          refine seq_run2 (t_app tyL48 (fun _ => rfl) rfl rfl rfl ⟨by simp, by simpa using h27⟩ rfl) rfl ?_
          refine seq_run0 (stp_assign (.row _ _) rfl) ?_
          exact ⟨((l4 ++ [(S_api_Instance.mk x8 r25.1)]), r25.2.L, r25.2.at_), H, ⟨rfl, rfl, rfl, rfl, rfl, trivial⟩, ⟨rfl, rfl, trivial⟩⟩
        · replace H := iff_ h24 H
          refine awp_skip ?_
          exact ⟨(l4, c22, c23), H, ⟨rfl, rfl, rfl, rfl, rfl, trivial⟩, ⟨rfl, rfl, trivial⟩⟩
    · rintro ⟨out28, c29, c30⟩ H
      replace H : gatemake_Stream_RightInstances_J2 out28 c29 c30 = some q6 := H
      unfold gatemake_Stream_RightInstances_J2 at H
      refine awp_plain hN rfl ?_
      refine seq_run0 (stp_add rfl rfl (by omega)) ?_
      refine seq_run0 (stp_move (.dat _) rfl) ?_
      exact ⟨_, backl H, ⟨rfl, rfl, rfl, rfl, rfl, trivial⟩, ⟨rfl, rfl, trivial⟩⟩
theorem k_gatemake_Stream_Instances (s1 : S_gatemake_Stream) (r : ((List S_api_Instance) × S_gatemake_Stream)) (H : m_gatemake_Stream_Instances s1 = some r) : Imp Try.prog 33 25 (C_gatemake_Stream s1) [] (resOf [vlst (List.map C_api_Instance r.1)]) (C_gatemake_Stream r.2) := by
  refine imp_of (us := [vlst (List.map C_api_Instance r.1)]) (cs' := (C_gatemake_Stream r.2)) (by kernel_rfl) Try.func33 rfl rfl rfl rfl fun X bl hN => ?_
  unfold m_gatemake_Stream_Instances at H
  refine awp_seq ?_
  refine awp_plain hN rfl ?_
  refine seq_run0 (stp_assign (.dat _) rfl) ?_
  refine awp_seq ?_
  refine awp_plain hN rfl ?_
  refine seq_run0 (stp_move (.ptr _ _) rfl) ?_
  obtain ⟨r2, h3, H⟩ := bnd H
  refine seq_callG (rn [(0, 0), (1, 1)]) [(0, _, _, some _)] [(1, _)] (kr_gatemake_Stream_RightInstances s1 r2 h3) ⟨rfl, rfl, trivial⟩ ⟨.inl (.inl rfl), trivial⟩ ⟨⟨⟨rfl, rfl⟩, trivial⟩, trivial⟩ rfl ?_
  refine seq_run0 (stp_assign (.row _ _) rfl) ?_
  refine awp_joinE (ι := (List S_api_Instance) × (List Int) × Int) (fun i => [(0, .ptr 0 0), (3, .row 1 i.1.length)]) (fun i => [(0, .box (some bl) 25 [.dat (vlst (List.map C_int i.2.1)), .dat (vint i.2.2)]), (1, .row 114 2 (List.map C_api_Instance i.1))]) (fun i => gatemake_Stream_Instances_J1 i.1 i.2.1 i.2.2 = some r) (fun i => rfl) ?_ ?_
  · skip
    refine awp_seq ?_
    refine awp_plain hN rfl ?_
    refine seq_run0 (stp_move (.ptr _ _) rfl) ?_
    obtain ⟨r4, h5, H⟩ := bnd H
    refine seq_run2 (stp_imp (k_gatemake_Stream_Flip r2.2 15 r4 h5) rfl ⟨.inl rfl, trivial⟩ rfl) rfl ?_
    refine awp_cond _ rfl (fun h6 => ?_) (fun h6 => ?_)
    · replace H := ift h6 H
      refine awp_seq ?_
      refine awp_plain hN rfl ?_
      refine seq_run0 (stp_move (.row _ _) rfl) ?_
      refine seq_run0 (stp_move (.ptr _ _) rfl) ?_
      refine seq_run0 (stp_move (.row _ _) rfl) ?_
      refine seq_run1 (t_lenR tyU48 rfl rfl) rfl ?_
      obtain ⟨r7, h8, H⟩ := bnd H
      refine seq_run2 (stp_imp (k_gatemake_Stream_Next r4.2 (r2.1.length : Int) r7 h8) rfl ⟨.inl rfl, trivial⟩ rfl) rfl ?_
      obtain ⟨x9, h10, H⟩ := bnd H
      refine seq_run1 (t_idxRI tyE48 rfl rfl rfl h10) rfl ?_
      refine seq_run0 (stp_assign (.rptr _ _ _ _ _) rfl) ?_
      refine awp_plain hN rfl ?_
      refine seq_run0 (stp_move (.rptr _ _ _ _ _) rfl) ?_
      refine seq_run0 (stp_move (.rptr _ _ _ _ _) rfl) ?_
      refine seq_run0 (stp_move (.ptr _ _) rfl) ?_
      refine seq_run0 (stp_move (.rptr _ _ _ _ _) rfl) ?_
      refine seq_run0 (stp_nilR rfl) ?_
      refine seq_run0 (stp_fldR tyF114_0 rfl) ?_
      refine seq_run1 (t_loadR1 tyS9 rfl rfl (at_some h10).2 rfl) rfl ?_
      refine seq_run0 (stp_dat (u' := vlst (List.map C_string [x9.Key, [], [65], [105, 97]])) (stp_lit [[_], [_], [_], [_]] tyL73 ⟨rfl, .inl ⟨_, rfl, rfl, rfl⟩, rfl, rfl, .inl ⟨_, rfl, rfl, rfl⟩, rfl, rfl, .inl ⟨_, rfl, rfl, rfl⟩, rfl, rfl, .inl ⟨_, rfl, rfl, rfl⟩, rfl, trivial⟩ rfl rfl) rfl) ?_
      obtain ⟨r11, h12, H⟩ := bnd H
      refine seq_run2 (stp_imp (k_gatemake_Stream_Some r7.2 ([x9.Key, [], [65], [105, 97]]) r11 h12) rfl ⟨.inl rfl, trivial⟩ rfl) rfl ?_
      refine seq_run0 (stp_move (.ptr _ _) rfl) ?_
      obtain ⟨r13, h14, H⟩ := bnd H
      refine seq_run2 (stp_imp (k_gatemake_Stream_Odd r11.2 1 100 r13 h14) rfl ⟨.inl rfl, .inl rfl, trivial⟩ rfl) rfl ?_
      refine seq_run0 (stp_nilR rfl) ?_
      refine seq_run0 (stp_fldR tyF114_0 rfl) ?_
      refine seq_run2 (t_storeR (S_api_Instance.mk r11.1 x9.Weight) tyS9 rfl rfl rfl rfl (at_some h10).2 rfl rfl) rfl ?_
      refine seq_run0 (stp_nilR rfl) ?_
      refine seq_run0 (stp_fldR tyF114_1 rfl) ?_
      refine seq_run2 (t_storeR (S_api_Instance.mk r11.1 r13.1) tyS3 rfl rfl rfl (by simp) (set_at (at_some h10).2) rfl rfl) rfl ?_
      exact ⟨(((r2.1.set r7.1.toNat (S_api_Instance.mk r11.1 x9.Weight)).set r7.1.toNat (S_api_Instance.mk r11.1 r13.1)), r13.2.L, r13.2.at_), H, ⟨rfl, congrArg (Slot.row 1) (by simp), trivial⟩, ⟨rfl, rfl, trivial⟩⟩
    · replace H := iff_ h6 H
      refine awp_skip ?_
      exact ⟨(r2.1, r4.2.L, r4.2.at_), H, ⟨rfl, rfl, trivial⟩, ⟨rfl, rfl, trivial⟩⟩
  · rintro ⟨out15, c16, c17⟩ H
    replace H : gatemake_Stream_Instances_J1 out15 c16 c17 = some r := H
    unfold gatemake_Stream_Instances_J1 at H
    refine awp_seq ?_
    refine awp_seq ?_
    refine awp_plain hN rfl ?_
    refine seq_run0 (stp_move (.ptr _ _) rfl) ?_
    obtain ⟨r18, h19, H⟩ := bnd H
    refine seq_run2 (stp_imp (k_gatemake_Stream_Flip (S_gatemake_Stream.mk c16 c17) 25 r18 h19) rfl ⟨.inl rfl, trivial⟩ rfl) rfl ?_
    refine awp_cond _ rfl (fun h20 => ?_) (fun h20 => ?_)
    · replace H := ift h20 H
      refine awp_seq ?_
      refine awp_plain hN rfl ?_
      refine seq_run0 (stp_assign (.dat _) rfl) ?_
      refine awp_ret ?_
      cases H
      exact ⟨trivial, ⟨.inr ⟨rfl, rfl⟩, trivial⟩, rfl⟩
    · replace H := iff_ h20 H
      refine awp_skip ?_
      refine awp_seq ?_
      refine awp_plain hN rfl ?_
      refine seq_run0 (stp_move (.row _ _) rfl) ?_
      refine seq_run0 (stp_assign (.row _ _) rfl) ?_
      refine awp_ret ?_
      cases H
      exact ⟨trivial, ⟨t_slotv rfl rfl, trivial⟩, rfl⟩
theorem k_gatemake_Stream_Budget (s1 : S_gatemake_Stream) (r : (S_api_Budget × S_gatemake_Stream)) (H : m_gatemake_Stream_Budget s1 = some r) : Imp Try.prog 56 25 (C_gatemake_Stream s1) [] (resOf [vagg (C_api_Budget r.1)]) (C_gatemake_Stream r.2) := by
  refine imp_of (us := [vagg (C_api_Budget r.1)]) (cs' := (C_gatemake_Stream r.2)) (by kernel_rfl) Try.func56 rfl rfl rfl rfl fun X bl hN => ?_
  unfold m_gatemake_Stream_Budget at H
  refine awp_seq ?_
  refine awp_plain hN rfl ?_
  refine seq_run2 (stp_alloc 1 tyZ50 rfl) rfl ?_
  refine awp_seq ?_
  refine awp_plain hN rfl ?_
  refine seq_run0 (stp_move (.ptr _ _) rfl) ?_
  obtain ⟨r2, h3, H⟩ := bnd H
  refine seq_run2 (stp_imp (k_gatemake_Stream_RightBudget s1 r2 h3) rfl trivial rfl) rfl ?_
  refine seq_run2 (stp_alloc 2 tyZ50 rfl) rfl ?_
  refine seq_run2 (stp_storeW tyS50 rfl rfl rfl rfl) rfl ?_
  refine awp_joinE (ι := (List Int) × Int × Int × Int × Int) (fun i => [(2, .ptr 1 0), (3, .ptr 2 0)]) (fun i => [(0, .box (some bl) 25 [.dat (vlst (List.map C_int i.1)), .dat (vint i.2.1)]), (1, .box none 50 [.dat (vint 0), .dat (vint 0), .dat (vint 0)]), (2, .box none 50 [.dat (vint i.2.2.1), .dat (vint i.2.2.2.1), .dat (vint i.2.2.2.2)])]) (fun i => gatemake_Stream_Budget_J1 i.1 i.2.1 i.2.2.1 i.2.2.2.1 i.2.2.2.2 = some r) (fun i => rfl) ?_ ?_
  · skip
    refine awp_seq ?_
    refine awp_plain hN rfl ?_
    refine seq_run0 (stp_move (.ptr _ _) rfl) ?_
    obtain ⟨r4, h5, H⟩ := bnd H
    refine seq_run2 (stp_imp (k_gatemake_Stream_Flip r2.2 15 r4 h5) rfl ⟨.inl rfl, trivial⟩ rfl) rfl ?_
    refine awp_cond _ rfl (fun h6 => ?_) (fun h6 => ?_)
    · replace H := ift h6 H
      refine awp_plain hN rfl ?_
      refine seq_run0 (stp_move (.ptr _ _) rfl) ?_
      obtain ⟨r7, h8, H⟩ := bnd H
      refine seq_run2 (stp_imp (k_gatemake_Stream_Odd r4.2 1 3600000 r7 h8) rfl ⟨.inl rfl, .inl rfl, trivial⟩ rfl) rfl ?_
      refine seq_run0 (stp_move (.ptr _ _) rfl) ?_
      obtain ⟨r9, h10, H⟩ := bnd H
      refine seq_run2 (stp_imp (k_gatemake_Stream_Odd r7.2 0 300 r9 h10) rfl ⟨.inl rfl, .inl rfl, trivial⟩ rfl) rfl ?_
      refine seq_run0 (stp_move (.ptr _ _) rfl) ?_
      obtain ⟨r11, h12, H⟩ := bnd H
      refine seq_run2 (stp_imp (k_gatemake_Stream_Odd r9.2 0 1000 r11 h12) rfl ⟨.inl rfl, .inl rfl, trivial⟩ rfl) rfl ?_
      refine seq_run0 (stp_dat (u' := vagg (C_api_Budget (S_api_Budget.mk r7.1 r9.1 r11.1))) (stp_build [(0, [vint r7.1]), (1, [vint r9.1]), (2, [vint r11.1])] tyZ50 tyP50 rfl ⟨rfl, .inl ⟨_, rfl, rfl, rfl⟩, rfl, rfl, .inl ⟨_, rfl, rfl, rfl⟩, rfl, rfl, .inl ⟨_, rfl, rfl, rfl⟩, rfl, trivial⟩) rfl) ?_
      refine seq_run2 (stp_storeW tyS50 rfl rfl rfl rfl) rfl ?_
      exact ⟨(r11.2.L, r11.2.at_, r7.1, r9.1, r11.1), H, ⟨rfl, rfl, trivial⟩, ⟨rfl, rfl, rfl, trivial⟩⟩
    · replace H := iff_ h6 H
      refine awp_skip ?_
      exact ⟨(r4.2.L, r4.2.at_, r2.1.Window, r2.1.Least, r2.1.Part), H, ⟨rfl, rfl, trivial⟩, ⟨rfl, rfl, rfl, trivial⟩⟩
  · rintro ⟨c13, c14, c15, c16, c17⟩ H
    replace H : gatemake_Stream_Budget_J1 c13 c14 c15 c16 c17 = some r := H
    unfold gatemake_Stream_Budget_J1 at H
    refine awp_seq ?_
    refine awp_plain hN rfl ?_
    refine seq_run1 (stp_loadA tyS50 rfl rfl rfl) rfl ?_
    refine seq_run2 (stp_storeW tyS50 rfl rfl rfl rfl) rfl ?_
    refine awp_ret ?_
    cases H
    exact ⟨trivial, ⟨⟨_, _, _, C_api_Budget (S_api_Budget.mk c15 c16 c17), rfl, rfl, rfl, rfl, tyS50⟩, trivial⟩, rfl⟩
theorem k_gatemake_Stream_Outliers (s1 : S_gatemake_Stream) (r : (S_api_Outliers × S_gatemake_Stream)) (H : m_gatemake_Stream_Outliers s1 = some r) : Imp Try.prog 48 25 (C_gatemake_Stream s1) [] (resOf [vagg (C_api_Outliers r.1)]) (C_gatemake_Stream r.2) := by
  refine imp_of (us := [vagg (C_api_Outliers r.1)]) (cs' := (C_gatemake_Stream r.2)) (by kernel_rfl) Try.func48 rfl rfl rfl rfl fun X bl hN => ?_
  unfold m_gatemake_Stream_Outliers at H
  refine awp_seq ?_
  refine awp_plain hN rfl ?_
  refine seq_run2 (stp_alloc 1 tyZ52 rfl) rfl ?_
  refine awp_seq ?_
  refine awp_plain hN rfl ?_
  refine seq_run0 (stp_move (.ptr _ _) rfl) ?_
  obtain ⟨r2, h3, H⟩ := bnd H
  refine seq_run2 (stp_imp (k_gatemake_Stream_RightOutliers s1 r2 h3) rfl trivial rfl) rfl ?_
  refine seq_run2 (stp_alloc 2 tyZ52 rfl) rfl ?_
  refine seq_run2 (stp_storeW tyS52 rfl rfl rfl rfl) rfl ?_
  refine awp_joinE (ι := (List Int) × Int × Int × Int × Int × Int) (fun i => [(2, .ptr 1 0), (3, .ptr 2 0)]) (fun i => [(0, .box (some bl) 25 [.dat (vlst (List.map C_int i.1)), .dat (vint i.2.1)]), (1, .box none 52 [.dat (vint 0), .dat (vint 0), .dat (vint 0), .dat (vint 0)]), (2, .box none 52 [.dat (vint i.2.2.1), .dat (vint i.2.2.2.1), .dat (vint i.2.2.2.2.1), .dat (vint i.2.2.2.2.2)])]) (fun i => gatemake_Stream_Outliers_J1 i.1 i.2.1 i.2.2.1 i.2.2.2.1 i.2.2.2.2.1 i.2.2.2.2.2 = some r) (fun i => rfl) ?_ ?_
  · skip
    refine awp_seq ?_
    refine awp_plain hN rfl ?_
    refine seq_run0 (stp_move (.ptr _ _) rfl) ?_
    obtain ⟨r4, h5, H⟩ := bnd H
    refine seq_run2 (stp_imp (k_gatemake_Stream_Flip r2.2 15 r4 h5) rfl ⟨.inl rfl, trivial⟩ rfl) rfl ?_
    refine awp_cond _ rfl (fun h6 => ?_) (fun h6 => ?_)
    · replace H := ift h6 H
      refine awp_plain hN rfl ?_
      refine seq_run0 (stp_move (.ptr _ _) rfl) ?_
      obtain ⟨r7, h8, H⟩ := bnd H
      refine seq_run2 (stp_imp (k_gatemake_Stream_Odd r4.2 1 100 r7 h8) rfl ⟨.inl rfl, .inl rfl, trivial⟩ rfl) rfl ?_
      refine seq_run0 (stp_move (.ptr _ _) rfl) ?_
      obtain ⟨r9, h10, H⟩ := bnd H
      refine seq_run2 (stp_imp (k_gatemake_Stream_Odd r7.2 1 20 r9 h10) rfl ⟨.inl rfl, .inl rfl, trivial⟩ rfl) rfl ?_
      refine seq_run0 (stp_move (.ptr _ _) rfl) ?_
      obtain ⟨r11, h12, H⟩ := bnd H
      refine seq_run2 (stp_imp (k_gatemake_Stream_Odd r9.2 1 3600000 r11 h12) rfl ⟨.inl rfl, .inl rfl, trivial⟩ rfl) rfl ?_
      refine seq_run0 (stp_move (.ptr _ _) rfl) ?_
      obtain ⟨r13, h14, H⟩ := bnd H
      refine seq_run2 (stp_imp (k_gatemake_Stream_Odd r11.2 0 1000 r13 h14) rfl ⟨.inl rfl, .inl rfl, trivial⟩ rfl) rfl ?_
      refine seq_run0 (stp_fldP tyF52_0 rfl) ?_
      refine seq_run2 (stp_store1 tyS3 rfl rfl rfl rfl) rfl ?_
      refine seq_run0 (stp_fldP tyF52_1 rfl) ?_
      refine seq_run2 (stp_store1 tyS3 rfl rfl rfl rfl) rfl ?_
      refine seq_run0 (stp_fldP tyF52_2 rfl) ?_
      refine seq_run2 (stp_store1 tyS3 rfl rfl rfl rfl) rfl ?_
      refine seq_run0 (stp_fldP tyF52_3 rfl) ?_
      refine seq_run2 (stp_store1 tyS3 rfl rfl rfl rfl) rfl ?_
      exact ⟨(r13.2.L, r13.2.at_, r7.1, r9.1, r11.1, r13.1), H, ⟨rfl, rfl, trivial⟩, ⟨rfl, rfl, rfl, trivial⟩⟩
    · replace H := iff_ h6 H
      refine awp_skip ?_
      exact ⟨(r4.2.L, r4.2.at_, r2.1.Fails, r2.1.Base, r2.1.Most, r2.1.Share), H, ⟨rfl, rfl, trivial⟩, ⟨rfl, rfl, rfl, trivial⟩⟩
  · rintro ⟨c15, c16, c17, c18, c19, c20⟩ H
    replace H : gatemake_Stream_Outliers_J1 c15 c16 c17 c18 c19 c20 = some r := H
    unfold gatemake_Stream_Outliers_J1 at H
    refine awp_seq ?_
    refine awp_plain hN rfl ?_
    refine seq_run1 (stp_loadA tyS52 rfl rfl rfl) rfl ?_
    refine seq_run2 (stp_storeW tyS52 rfl rfl rfl rfl) rfl ?_
    refine awp_ret ?_
    cases H
    exact ⟨trivial, ⟨⟨_, _, _, C_api_Outliers (S_api_Outliers.mk c17 c18 c19 c20), rfl, rfl, rfl, rfl, tyS52⟩, trivial⟩, rfl⟩
theorem k_gatemake_Stream_Setup (s1 : S_gatemake_Stream) (r : (S_api_Setup × S_gatemake_Stream)) (H : m_gatemake_Stream_Setup s1 = some r) : Imp Try.prog 23 25 (C_gatemake_Stream s1) [] (resOf [vagg (C_api_Setup r.1)]) (C_gatemake_Stream r.2) := by
  refine imp_of (us := [vagg (C_api_Setup r.1)]) (cs' := (C_gatemake_Stream r.2)) (by kernel_rfl) Try.func23 rfl rfl rfl rfl fun X bl hN => ?_
  unfold m_gatemake_Stream_Setup at H
  refine awp_seq ?_
  refine awp_plain hN rfl ?_
  refine seq_run2 (stp_alloc 1 tyZ54 rfl) rfl ?_
  refine awp_seq ?_
  refine awp_plain hN rfl ?_
  refine seq_run0 (stp_move (.ptr _ _) rfl) ?_
  obtain ⟨r2, h3, H⟩ := bnd H
  refine seq_run2 (stp_imp (k_gatemake_Stream_RightSetup s1 r2 h3) rfl trivial rfl) rfl ?_
  refine seq_run2 (stp_alloc 2 tyZ54 rfl) rfl ?_
  refine seq_run2 (stp_storeW tyS54 rfl rfl rfl rfl) rfl ?_
  refine awp_joinE (ι := (List Int) × Int × (List S_api_Instance) × Int × Int × Int × Int × Int × Int × Int × Int × Int × Int × Int) (fun i => [(2, .ptr 1 0), (3, .ptr 2 0)]) (fun i => [(0, .box (some bl) 25 [.dat (vlst (List.map C_int i.1)), .dat (vint i.2.1)]), (1, .box none 54 [.dat (vnil), .dat (vint 0), .dat (vint 0), .dat (vint 0), .dat (vint 0), .dat (vint 0), .dat (vint 0), .dat (vint 0), .dat (vint 0), .dat (vint 0), .dat (vint 0), .dat (vint 0)]), (2, .box none 54 [.dat (vlst (List.map C_api_Instance i.2.2.1)), .dat (vint i.2.2.2.1), .dat (vint i.2.2.2.2.1), .dat (vint i.2.2.2.2.2.1), .dat (vint i.2.2.2.2.2.2.1), .dat (vint i.2.2.2.2.2.2.2.1), .dat (vint i.2.2.2.2.2.2.2.2.1), .dat (vint i.2.2.2.2.2.2.2.2.2.1), .dat (vint i.2.2.2.2.2.2.2.2.2.2.1), .dat (vint i.2.2.2.2.2.2.2.2.2.2.2.1), .dat (vint i.2.2.2.2.2.2.2.2.2.2.2.2.1), .dat (vint i.2.2.2.2.2.2.2.2.2.2.2.2.2)])]) (fun i => gatemake_Stream_Setup_J1 i.1 i.2.1 i.2.2.1 i.2.2.2.1 i.2.2.2.2.1 i.2.2.2.2.2.1 i.2.2.2.2.2.2.1 i.2.2.2.2.2.2.2.1 i.2.2.2.2.2.2.2.2.1 i.2.2.2.2.2.2.2.2.2.1 i.2.2.2.2.2.2.2.2.2.2.1 i.2.2.2.2.2.2.2.2.2.2.2.1 i.2.2.2.2.2.2.2.2.2.2.2.2.1 i.2.2.2.2.2.2.2.2.2.2.2.2.2 = some r) (fun i => rfl) ?_ ?_
  · skip
    refine awp_seq ?_
    refine awp_plain hN rfl ?_
    refine seq_run0 (stp_move (.ptr _ _) rfl) ?_
    obtain ⟨r4, h5, H⟩ := bnd H
    refine seq_run2 (stp_imp (k_gatemake_Stream_Flip r2.2 10 r4 h5) rfl ⟨.inl rfl, trivial⟩ rfl) rfl ?_
    refine awp_cond _ rfl (fun h6 => ?_) (fun h6 => ?_)
    · replace H := ift h6 H
      refine awp_seq ?_
      refine awp_plain hN rfl ?_
      refine seq_run0 (stp_move (.ptr _ _) rfl) ?_
      obtain ⟨r7, h8, H⟩ := bnd H
      refine seq_run2 (stp_imp (k_gatemake_Stream_Next r4.2 4 r7 h8) rfl ⟨.inl rfl, trivial⟩ rfl) rfl ?_
      refine awp_block ?_
      refine awp_seq ?_
      refine awp_plain hN rfl ?_
      refine seq_run0 (stp_eql rfl rfl) ?_
      refine seq_run0 (stp_assign (.dat _) rfl) ?_
      refine awp_cond _ rfl (fun h9 => ?_) (fun h9 => ?_)
      · replace H := ift h9 H
        refine awp_plain hN rfl ?_
        refine seq_run0 (stp_move (.ptr _ _) rfl) ?_
        obtain ⟨r10, h11, H⟩ := bnd H
        refine seq_run2 (stp_imp (k_gatemake_Stream_Instances r7.2 r10 h11) rfl trivial rfl) rfl ?_
        refine seq_run0 (stp_fldP tyF54_0 rfl) ?_
        refine seq_run2 (stp_store1 tyS48 rfl rfl rfl rfl) rfl ?_
        exact ⟨(r10.2.L, r10.2.at_, r10.1, r2.1.Tries, r2.1.Timeout, r2.1.Wait, r2.1.MostWait, r2.1.Budget.Window, r2.1.Budget.Least, r2.1.Budget.Part, r2.1.Outliers.Fails, r2.1.Outliers.Base, r2.1.Outliers.Most, r2.1.Outliers.Share), H, ⟨rfl, rfl, trivial⟩, ⟨rfl, rfl, rfl, trivial⟩⟩
      · replace H := iff_ h9 H
        refine awp_seq ?_
        refine awp_plain hN rfl ?_
        refine seq_run0 (stp_eql rfl rfl) ?_
        refine seq_run0 (stp_assign (.dat _) rfl) ?_
        refine awp_cond _ rfl (fun h12 => ?_) (fun h12 => ?_)
        · replace H := ift h12 H
          refine awp_plain hN rfl ?_
          refine seq_run0 (stp_move (.ptr _ _) rfl) ?_
          obtain ⟨r13, h14, H⟩ := bnd H
          refine seq_run2 (stp_imp (k_gatemake_Stream_Odd r7.2 1 5 r13 h14) rfl ⟨.inl rfl, .inl rfl, trivial⟩ rfl) rfl ?_
          refine seq_run0 (stp_move (.ptr _ _) rfl) ?_
          obtain ⟨r15, h16, H⟩ := bnd H
          refine seq_run2 (stp_imp (k_gatemake_Stream_Odd r13.2 1 3600000 r15 h16) rfl ⟨.inl rfl, .inl rfl, trivial⟩ rfl) rfl ?_
          refine seq_run0 (stp_fldP tyF54_1 rfl) ?_
          refine seq_run2 (stp_store1 tyS3 rfl rfl rfl rfl) rfl ?_
          refine seq_run0 (stp_fldP tyF54_2 rfl) ?_
          refine seq_run2 (stp_store1 tyS3 rfl rfl rfl rfl) rfl ?_
          exact ⟨(r15.2.L, r15.2.at_, r2.1.Instances, r13.1, r15.1, r2.1.Wait, r2.1.MostWait, r2.1.Budget.Window, r2.1.Budget.Least, r2.1.Budget.Part, r2.1.Outliers.Fails, r2.1.Outliers.Base, r2.1.Outliers.Most, r2.1.Outliers.Share), H, ⟨rfl, rfl, trivial⟩, ⟨rfl, rfl, rfl, trivial⟩⟩
        · replace H := iff_ h12 H
          refine awp_seq ?_
          refine awp_plain hN rfl ?_
          refine seq_run0 (stp_eql rfl rfl) ?_
          refine seq_run0 (stp_assign (.dat _) rfl) ?_
          refine awp_cond _ rfl (fun h17 => ?_) (fun h17 => ?_)
          · replace H := ift h17 H
            refine awp_plain hN rfl ?_
            refine seq_run0 (stp_move (.ptr _ _) rfl) ?_
            obtain ⟨r18, h19, H⟩ := bnd H
            refine seq_run2 (stp_imp (k_gatemake_Stream_Odd r7.2 0 10 r18 h19) rfl ⟨.inl rfl, .inl rfl, trivial⟩ rfl) rfl ?_
            refine seq_run0 (stp_move (.ptr _ _) rfl) ?_
            obtain ⟨r20, h21, H⟩ := bnd H
            refine seq_run2 (stp_imp (k_gatemake_Stream_Odd r18.2 0 3600000 r20 h21) rfl ⟨.inl rfl, .inl rfl, trivial⟩ rfl) rfl ?_
            refine seq_run0 (stp_fldP tyF54_3 rfl) ?_
            refine seq_run2 (stp_store1 tyS3 rfl rfl rfl rfl) rfl ?_
            refine seq_run0 (stp_fldP tyF54_4 rfl) ?_
            refine seq_run2 (stp_store1 tyS3 rfl rfl rfl rfl) rfl ?_
            exact ⟨(r20.2.L, r20.2.at_, r2.1.Instances, r2.1.Tries, r2.1.Timeout, r18.1, r20.1, r2.1.Budget.Window, r2.1.Budget.Least, r2.1.Budget.Part, r2.1.Outliers.Fails, r2.1.Outliers.Base, r2.1.Outliers.Most, r2.1.Outliers.Share), H, ⟨rfl, rfl, trivial⟩, ⟨rfl, rfl, rfl, trivial⟩⟩
          · replace H := iff_ h17 H
            refine awp_plain hN rfl ?_
            refine seq_run0 (stp_move (.ptr _ _) rfl) ?_
            obtain ⟨r22, h23, H⟩ := bnd H
            refine seq_run2 (stp_imp (k_gatemake_Stream_Budget r7.2 r22 h23) rfl trivial rfl) rfl ?_
            refine seq_run0 (stp_move (.ptr _ _) rfl) ?_
            obtain ⟨r24, h25, H⟩ := bnd H
            refine seq_run2 (stp_imp (k_gatemake_Stream_Outliers r22.2 r24 h25) rfl trivial rfl) rfl ?_
            refine seq_run0 (stp_fldP tyF54_5 rfl) ?_
            refine seq_run2 (stp_storeA tyS50 rfl rfl rfl rfl) rfl ?_
            refine seq_run0 (stp_fldP tyF54_6 rfl) ?_
            refine seq_run2 (stp_storeA tyS52 rfl rfl rfl rfl) rfl ?_
            exact ⟨(r24.2.L, r24.2.at_, r2.1.Instances, r2.1.Tries, r2.1.Timeout, r2.1.Wait, r2.1.MostWait, r22.1.Window, r22.1.Least, r22.1.Part, r24.1.Fails, r24.1.Base, r24.1.Most, r24.1.Share), H, ⟨rfl, rfl, trivial⟩, ⟨rfl, rfl, rfl, trivial⟩⟩
    · replace H := iff_ h6 H
      refine awp_skip ?_
      exact ⟨(r4.2.L, r4.2.at_, r2.1.Instances, r2.1.Tries, r2.1.Timeout, r2.1.Wait, r2.1.MostWait, r2.1.Budget.Window, r2.1.Budget.Least, r2.1.Budget.Part, r2.1.Outliers.Fails, r2.1.Outliers.Base, r2.1.Outliers.Most, r2.1.Outliers.Share), H, ⟨rfl, rfl, trivial⟩, ⟨rfl, rfl, rfl, trivial⟩⟩
  · rintro ⟨c26, c27, c28, c29, c30, c31, c32, c33, c34, c35, c36, c37, c38, c39⟩ H
    replace H : gatemake_Stream_Setup_J1 c26 c27 c28 c29 c30 c31 c32 c33 c34 c35 c36 c37 c38 c39 = some r := H
    unfold gatemake_Stream_Setup_J1 at H
    refine awp_seq ?_
    refine awp_plain hN rfl ?_
    refine seq_run1 (stp_loadA tyS54 rfl rfl rfl) rfl ?_
    refine seq_run2 (stp_storeW tyS54 rfl rfl rfl rfl) rfl ?_
    refine awp_ret ?_
    cases H
    exact ⟨trivial, ⟨⟨_, _, _, C_api_Setup (S_api_Setup.mk c28 c29 c30 c31 c32 (S_api_Budget.mk c33 c34 c35) (S_api_Outliers.mk c36 c37 c38 c39)), rfl, rfl, rfl, rfl, tyS54⟩, trivial⟩, rfl⟩
theorem k_gatemake_Stream_RightCalls (s1 : S_gatemake_Stream) (most2 : Int) (r : ((List S_api_Call) × S_gatemake_Stream)) (H : m_gatemake_Stream_RightCalls s1 most2 = some r) : Imp Try.prog 87 25 (C_gatemake_Stream s1) [vint most2] (resOf [vlst (List.map C_api_Call r.1)]) (C_gatemake_Stream r.2) := by
  refine imp_of (us := [vlst (List.map C_api_Call r.1)]) (cs' := (C_gatemake_Stream r.2)) (by kernel_rfl) Try.func87 rfl rfl rfl rfl fun X bl hN => ?_
  unfold m_gatemake_Stream_RightCalls at H
  refine awp_seq ?_
  refine awp_plain hN rfl ?_
  refine seq_run0 (stp_assign (.dat _) rfl) ?_
  refine awp_seq ?_
  refine awp_plain hN rfl ?_
  refine seq_run0 (stp_assign (.dat _) rfl) ?_
  refine awp_seq ?_
  refine awp_plain hN rfl ?_
  refine seq_run0 (stp_assign (.dat _) rfl) ?_
  refine awp_seq ?_
  refine awp_seq ?_
  refine awp_plain hN rfl ?_
  refine seq_run0 (stp_move (.ptr _ _) rfl) ?_
  refine seq_run0 (stp_move (.dat _) rfl) ?_
  obtain ⟨r3, h4, H⟩ := bnd H
  refine seq_run2 (stp_imp (k_gatemake_Stream_Range s1 0 most2 r3 h4) rfl ⟨.inl rfl, .inl rfl, trivial⟩ rfl) rfl ?_
  refine seq_run0 (stp_move (.dat _) rfl) ?_
  refine awp_block ?_
  refine awp_nilrow 5 1 120 2 rfl rfl rfl ?_
  obtain ⟨h11, H⟩ := gif H
  refine awp_rng (fun (k9 : Nat) (s : Int × (List Int) × Int × (List S_api_Call)) => [(0, .ptr 0 0), (5, .row 1 s.2.2.2.length), (6, .dat (vint s.1)), (10, .dat (vint r3.1)), (11, .dat (vint (k9 : Int)))]) (fun (k9 : Nat) (s : Int × (List Int) × Int × (List S_api_Call)) => [(0, .box (some bl) 25 [.dat (vlst (List.map C_int s.2.1)), .dat (vint s.2.2.1)]), (1, .row 120 2 (List.map C_api_Call s.2.2.2))]) (0, r3.2.L, r3.2.at_, []) H ⟨rfl, congrArg (Slot.row 1) (by simp), rfl, rfl, rfl, trivial⟩ ⟨rfl, rfl, trivial⟩ (fun _ _ => rfl) ?_ ?_
  · rintro ⟨v5, c6, c7, l8⟩ H
    replace H : gatemake_Stream_RightCalls_E1 v5 c6 c7 l8 = some r := H
    unfold gatemake_Stream_RightCalls_E1 at H
    refine awp_seq ?_
    refine awp_plain hN rfl ?_
    refine seq_run0 (stp_lss rfl rfl) ?_
    refine awp_seq ?_
    refine awp_cond _ rfl (fun h => (lt_tI h).elim) (fun h => ?_)
    refine awp_exit ?_
    refine awp_seq ?_
    refine awp_plain hN rfl ?_
    refine seq_run0 (stp_move (.row _ _) rfl) ?_
    refine seq_run0 (stp_assign (.row _ _) rfl) ?_
    refine awp_ret ?_
    cases H
    exact ⟨trivial, ⟨t_slotv rfl rfl, trivial⟩, rfl⟩
  · rintro k9 ⟨v5, c6, c7, l8⟩ q10 h12 H hq10
    replace H : gatemake_Stream_RightCalls_L1 k9 v5 c6 c7 l8 = some q10 := H
    unfold gatemake_Stream_RightCalls_L1 at H
    refine awp_seq ?_
    refine awp_plain hN rfl ?_
    refine seq_run0 (stp_lss rfl rfl) ?_
    refine awp_seq ?_
    refine awp_cond _ rfl (fun h => ?_) (fun h => (lt_fI h12 h).elim)
    refine awp_skip ?_
    refine awp_seq ?_
    refine awp_block ?_
    refine awp_seq ?_
    refine awp_plain hN rfl ?_
    refine seq_run0 (stp_move (.dat _) rfl) ?_
    refine seq_run0 (stp_assign (.dat _) rfl) ?_
    refine awp_seq ?_
    refine awp_plain hN rfl ?_
    refine seq_run0 (stp_move (.dat _) rfl) ?_
    refine seq_run0 (stp_move (.ptr _ _) rfl) ?_
    refine seq_run0 (stp_dat (u' := vlst (List.map C_int [0, 0, 1, 5, 10, 40])) (stp_lit [[_], [_], [_], [_], [_], [_]] tyL22 ⟨rfl, .inl ⟨_, rfl, rfl, rfl⟩, rfl, rfl, .inl ⟨_, rfl, rfl, rfl⟩, rfl, rfl, .inl ⟨_, rfl, rfl, rfl⟩, rfl, rfl, .inl ⟨_, rfl, rfl, rfl⟩, rfl, rfl, .inl ⟨_, rfl, rfl, rfl⟩, rfl, rfl, .inl ⟨_, rfl, rfl, rfl⟩, rfl, trivial⟩ rfl rfl) rfl) ?_
    obtain ⟨r13, h14, H⟩ := bnd H
    refine seq_run2 (stp_imp (k_gatemake_Stream_Pick (S_gatemake_Stream.mk c6 c7) [0, 0, 1, 5, 10, 40] r13 h14) rfl ⟨.inl rfl, trivial⟩ rfl) rfl ?_
    refine seq_run0 (stp_wrap _ rfl rfl (.inl ⟨rfl, rfl⟩)) ?_
    refine seq_run0 (stp_assign (.dat _) rfl) ?_
    refine awp_plain hN rfl ?_
    refine seq_run0 (stp_move (.row _ _) rfl) ?_
    refine seq_run0 (stp_move (.dat _) rfl) ?_
    refine seq_run0 (stp_wrap _ rfl rfl (.inl ⟨rfl, rfl⟩)) ?_
    refine seq_run0 (stp_conv tyU3 tyU21 rfl) ?_
    refine seq_run0 (stp_convR tyU21 rfl tyU9 rfl) ?_
    obtain ⟨h15, H⟩ := gif H
    refine seq_run0 (stp_sadd rfl rfl (Nat.le_trans h15 (by decide))) ?_
    refine seq_run0 (stp_move (.dat _) rfl) ?_
    refine seq_run0 (stp_dat (u' := vagg (C_api_Call (S_api_Call.mk ([99] ++ (encL (IntKind.wrap .i32 (wr (97 + (k9 : Int)))))) (wr (v5 + r13.1))))) (stp_build [(0, [vstr ([99] ++ (encL (IntKind.wrap .i32 (wr (97 + (k9 : Int))))))]), (1, [vint (wr (v5 + r13.1))])] tyZ120 tyP120 rfl ⟨rfl, .inl ⟨_, rfl, rfl, rfl⟩, rfl, rfl, .inl ⟨_, rfl, rfl, rfl⟩, rfl, trivial⟩) rfl) ?_
    refine seq_run0 (stp_dat (u' := vlst (List.map C_api_Call [(S_api_Call.mk ([99] ++ (encL (IntKind.wrap .i32 (wr (97 + (k9 : Int)))))) (wr (v5 + r13.1)))])) (stp_lit [_] tyL56 ⟨rfl, .inr rfl, rfl, trivial⟩ rfl rfl) rfl) ?_
    obtain ⟨h16, H⟩ := gif H
    refine seq_run2 (t_app tyL56 (fun _ => rfl) rfl rfl rfl ⟨by simp, by simpa using h16⟩ rfl) rfl ?_
    refine seq_run0 (stp_assign (.row _ _) rfl) ?_
    refine awp_plain hN rfl ?_
    refine seq_run0 (stp_add rfl rfl (by omega)) ?_
    refine seq_run0 (stp_move (.dat _) rfl) ?_
    exact ⟨_, backl H, ⟨rfl, rfl, rfl, rfl, rfl, trivial⟩, ⟨rfl, rfl, trivial⟩⟩
theorem kr_gatemake_Stream_RightCalls (s1 : S_gatemake_Stream) (most2 : Int) (r : ((List S_api_Call) × S_gatemake_Stream)) (H : m_gatemake_Stream_RightCalls s1 most2 = some r) : FnG Try.prog 87 [.ptr 0 0, .dat (vint most2)] [(0, .box (some 0) 25 (List.map .dat (C_gatemake_Stream s1)))] (.row 1 r.1.length) [(0, .box (some 0) 25 (List.map .dat (C_gatemake_Stream r.2))), (1, .row 120 2 (List.map C_api_Call r.1))] := by
  refine fnG_of (by kernel_rfl) Try.func87 rfl rfl rfl rfl fun X A hN => ?_
  unfold m_gatemake_Stream_RightCalls at H
  refine awp_seq ?_
  refine awp_plain hN rfl ?_
  refine seq_run0 (stp_assign (.dat _) rfl) ?_
  refine awp_seq ?_
  refine awp_plain hN rfl ?_
  refine seq_run0 (stp_assign (.dat _) rfl) ?_
  refine awp_seq ?_
  refine awp_plain hN rfl ?_
  refine seq_run0 (stp_assign (.dat _) rfl) ?_
  refine awp_seq ?_
  refine awp_seq ?_
  refine awp_plain hN rfl ?_
  refine seq_run0 (stp_move (.ptr _ _) rfl) ?_
  refine seq_run0 (stp_move (.dat _) rfl) ?_
  obtain ⟨r3, h4, H⟩ := bnd H
  refine seq_run2 (stp_imp (k_gatemake_Stream_Range s1 0 most2 r3 h4) rfl ⟨.inl rfl, .inl rfl, trivial⟩ rfl) rfl ?_
  refine seq_run0 (stp_move (.dat _) rfl) ?_
  refine awp_block ?_
  refine awp_nilrow 5 1 120 2 rfl rfl rfl ?_
  obtain ⟨h11, H⟩ := gif H
  refine awp_rng (fun (k9 : Nat) (s : Int × (List Int) × Int × (List S_api_Call)) => [(0, .ptr 0 0), (5, .row 1 s.2.2.2.length), (6, .dat (vint s.1)), (10, .dat (vint r3.1)), (11, .dat (vint (k9 : Int)))]) (fun (k9 : Nat) (s : Int × (List Int) × Int × (List S_api_Call)) => [(0, .box (some (A.bl 0)) 25 [.dat (vlst (List.map C_int s.2.1)), .dat (vint s.2.2.1)]), (1, .row 120 2 (List.map C_api_Call s.2.2.2))]) (0, r3.2.L, r3.2.at_, []) H ⟨rfl, congrArg (Slot.row 1) (by simp), rfl, rfl, rfl, trivial⟩ ⟨rfl, rfl, trivial⟩ (fun _ _ => rfl) ?_ ?_
  · rintro ⟨v5, c6, c7, l8⟩ H
    replace H : gatemake_Stream_RightCalls_E1 v5 c6 c7 l8 = some r := H
    unfold gatemake_Stream_RightCalls_E1 at H
    refine awp_seq ?_
    refine awp_plain hN rfl ?_
    refine seq_run0 (stp_lss rfl rfl) ?_
    refine awp_seq ?_
    refine awp_cond _ rfl (fun h => (lt_tI h).elim) (fun h => ?_)
    refine awp_exit ?_
    refine awp_seq ?_
    refine awp_plain hN rfl ?_
    refine seq_run0 (stp_move (.row _ _) rfl) ?_
    refine seq_run0 (stp_assign (.row _ _) rfl) ?_
    refine awp_ret ?_
    cases H
    exact ⟨trivial, [(4, .row 1 l8.length)], ⟨rfl, trivial⟩, ⟨rfl, rfl, trivial⟩, rfl, .inr ⟨4, rfl, rfl⟩⟩
  · rintro k9 ⟨v5, c6, c7, l8⟩ q10 h12 H hq10
    replace H : gatemake_Stream_RightCalls_L1 k9 v5 c6 c7 l8 = some q10 := H
    unfold gatemake_Stream_RightCalls_L1 at H
    refine awp_seq ?_
    refine awp_plain hN rfl ?_
    refine seq_run0 (stp_lss rfl rfl) ?_
    refine awp_seq ?_
    refine awp_cond _ rfl (fun h => ?_) (fun h => (lt_fI h12 h).elim)
    refine awp_skip ?_
    refine awp_seq ?_
    refine awp_block ?_
    refine awp_seq ?_
    refine awp_plain hN rfl ?_
    refine seq_run0 (stp_move (.dat _) rfl) ?_
    refine seq_run0 (stp_assign (.dat _) rfl) ?_
    refine awp_seq ?_
    refine awp_plain hN rfl ?_
    refine seq_run0 (stp_move (.dat _) rfl) ?_
    refine seq_run0 (stp_move (.ptr _ _) rfl) ?_
    refine seq_run0 (stp_dat (u' := vlst (List.map C_int [0, 0, 1, 5, 10, 40])) (stp_lit [[_], [_], [_], [_], [_], [_]] tyL22 ⟨rfl, .inl ⟨_, rfl, rfl, rfl⟩, rfl, rfl, .inl ⟨_, rfl, rfl, rfl⟩, rfl, rfl, .inl ⟨_, rfl, rfl, rfl⟩, rfl, rfl, .inl ⟨_, rfl, rfl, rfl⟩, rfl, rfl, .inl ⟨_, rfl, rfl, rfl⟩, rfl, rfl, .inl ⟨_, rfl, rfl, rfl⟩, rfl, trivial⟩ rfl rfl) rfl) ?_
    obtain ⟨r13, h14, H⟩ := bnd H
    refine seq_run2 (stp_imp (k_gatemake_Stream_Pick (S_gatemake_Stream.mk c6 c7) [0, 0, 1, 5, 10, 40] r13 h14) rfl ⟨.inl rfl, trivial⟩ rfl) rfl ?_
    refine seq_run0 (stp_wrap _ rfl rfl (.inl ⟨rfl, rfl⟩)) ?_
    refine seq_run0 (stp_assign (.dat _) rfl) ?_
    refine awp_plain hN rfl ?_
    refine seq_run0 (stp_move (.row _ _) rfl) ?_
    refine seq_run0 (stp_move (.dat _) rfl) ?_
    refine seq_run0 (stp_wrap _ rfl rfl (.inl ⟨rfl, rfl⟩)) ?_
    refine seq_run0 (stp_conv tyU3 tyU21 rfl) ?_
    refine seq_run0 (stp_convR tyU21 rfl tyU9 rfl) ?_
    obtain ⟨h15, H⟩ := gif H
    refine seq_run0 (stp_sadd rfl rfl (Nat.le_trans h15 (by decide))) ?_
    refine seq_run0 (stp_move (.dat _) rfl) ?_
    refine seq_run0 (stp_dat (u' := vagg (C_api_Call (S_api_Call.mk ([99] ++ (encL (IntKind.wrap .i32 (wr (97 + (k9 : Int)))))) (wr (v5 + r13.1))))) (stp_build [(0, [vstr ([99] ++ (encL (IntKind.wrap .i32 (wr (97 + (k9 : Int))))))]), (1, [vint (wr (v5 + r13.1))])] tyZ120 tyP120 rfl ⟨rfl, .inl ⟨_, rfl, rfl, rfl⟩, rfl, rfl, .inl ⟨_, rfl, rfl, rfl⟩, rfl, trivial⟩) rfl) ?_
    refine seq_run0 (stp_dat (u' := vlst (List.map C_api_Call [(S_api_Call.mk ([99] ++ (encL (IntKind.wrap .i32 (wr (97 + (k9 : Int)))))) (wr (v5 + r13.1)))])) (stp_lit [_] tyL56 ⟨rfl, .inr rfl, rfl, trivial⟩ rfl rfl) rfl) ?_
    obtain ⟨h16, H⟩ := gif H
    refine seq_run2 (t_app tyL56 (fun _ => rfl) rfl rfl rfl ⟨by simp, by simpa using h16⟩ rfl) rfl ?_
    refine seq_run0 (stp_assign (.row _ _) rfl) ?_
    refine awp_plain hN rfl ?_
    refine seq_run0 (stp_add rfl rfl (by omega)) ?_
    refine seq_run0 (stp_move (.dat _) rfl) ?_
    exact ⟨_, backl H, ⟨rfl, rfl, rfl, rfl, rfl, trivial⟩, ⟨rfl, rfl, trivial⟩⟩
theorem k_gatemake_Stream_Calls (s1 : S_gatemake_Stream) (most2 : Int) (r : ((List S_api_Call) × S_gatemake_Stream)) (H : m_gatemake_Stream_Calls s1 most2 = some r) : Imp Try.prog 24 25 (C_gatemake_Stream s1) [vint most2] (resOf [vlst (List.map C_api_Call r.1)]) (C_gatemake_Stream r.2) := by
  refine imp_of (us := [vlst (List.map C_api_Call r.1)]) (cs' := (C_gatemake_Stream r.2)) (by kernel_rfl) Try.func24 rfl rfl rfl rfl fun X bl hN => ?_
  unfold m_gatemake_Stream_Calls at H
  refine awp_seq ?_
  refine awp_plain hN rfl ?_
  refine seq_run0 (stp_assign (.dat _) rfl) ?_
  refine awp_seq ?_
  refine awp_plain hN rfl ?_
  refine seq_run0 (stp_move (.ptr _ _) rfl) ?_
  refine seq_run0 (stp_move (.dat _) rfl) ?_
  obtain ⟨r3, h4, H⟩ := bnd H
  refine seq_callG (rn [(0, 0), (1, 1)]) [(0, _, _, some _)] [(1, _)] (kr_gatemake_Stream_RightCalls s1 most2 r3 h4) ⟨rfl, rfl, trivial⟩ ⟨.inl (.inl rfl), .inl (.inl rfl), trivial⟩ ⟨⟨⟨rfl, rfl⟩, trivial⟩, trivial⟩ rfl ?_
  refine seq_run0 (stp_assign (.row _ _) rfl) ?_
  refine awp_joinE (ι := (List S_api_Call) × (List Int) × Int) (fun i => [(5, .row 1 i.1.length)]) (fun i => [(0, .box (some bl) 25 [.dat (vlst (List.map C_int i.2.1)), .dat (vint i.2.2)]), (1, .row 120 2 (List.map C_api_Call i.1))]) (fun i => gatemake_Stream_Calls_J1 i.1 i.2.1 i.2.2 = some r) (fun i => rfl) ?_ ?_
  · skip
    refine awp_joinE (ι := Bool × (List Int) × Int) (fun i => [(0, .ptr 0 0), (5, .row 1 r3.1.length), (16, .dat (vbool i.1))]) (fun i => [(0, .box (some bl) 25 [.dat (vlst (List.map C_int i.2.1)), .dat (vint i.2.2)]), (1, .row 120 2 (List.map C_api_Call r3.1))]) (fun i => gatemake_Stream_Calls_J2 r3 i.1 i.2.1 i.2.2 = some r) (fun i => rfl) ?_ ?_
    · skip
      refine awp_plain hN rfl ?_
      refine seq_run0 (stp_move (.row _ _) rfl) ?_
      refine seq_run1 (t_lenR tyU56 rfl rfl) rfl ?_
      refine seq_run0 (stp_gtr rfl rfl) ?_
      refine seq_run0 (stp_move (.dat _) rfl) ?_
      refine seq_split (j := 3) rfl rfl (fun h5 => ?_) (fun h5 => ?_) rfl
      · have h6 := un1 h5
        replace H := ift h6 H
        refine seq_g0 rfl rfl h5 (stp_move (.ptr _ _) rfl) ?_
        obtain ⟨r7, h8, H⟩ := bnd H
        refine seq_g2 rfl rfl h5 (stp_imp (k_gatemake_Stream_Flip r3.2 12 r7 h8) rfl ⟨.inl rfl, trivial⟩ rfl) rfl ?_
        refine seq_run0 (stp_pick_t rfl (bTT h6) rfl) ?_
        exact ⟨(r7.1, r7.2.L, r7.2.at_), H, ⟨rfl, rfl, rfl, trivial⟩, ⟨rfl, rfl, trivial⟩⟩
      · have h9 := un2 h5
        replace H := iff_ h9 H
        refine seq_skip rfl rfl h5 ?_
        refine seq_skip rfl rfl h5 ?_
        refine seq_run0 (stp_pick_f rfl (bFF h9) rfl) ?_
        exact ⟨(false, r3.2.L, r3.2.at_), H, ⟨rfl, rfl, rfl, trivial⟩, ⟨rfl, rfl, trivial⟩⟩
    · rintro ⟨v10, c11, c12⟩ H
      replace H : gatemake_Stream_Calls_J2 r3 v10 c11 c12 = some r := H
      unfold gatemake_Stream_Calls_J2 at H
      refine awp_cond _ rfl (fun h13 => ?_) (fun h13 => ?_)
      · replace H := ift h13 H
        refine awp_seq ?_
        refine awp_plain hN rfl ?_
        refine seq_run0 (stp_move (.row _ _) rfl) ?_
        refine seq_run0 (stp_move (.ptr _ _) rfl) ?_
        refine seq_run0 (stp_move (.row _ _) rfl) ?_
        refine seq_run1 (t_lenR tyU56 rfl rfl) rfl ?_
        obtain ⟨r14, h15, H⟩ := bnd H
        refine seq_run2 (stp_imp (k_gatemake_Stream_Next (S_gatemake_Stream.mk c11 c12) (r3.1.length : Int) r14 h15) rfl ⟨.inl rfl, trivial⟩ rfl) rfl ?_
        obtain ⟨x16, h17, H⟩ := bnd H
        refine seq_run1 (t_idxRI tyE56 rfl rfl rfl h17) rfl ?_
        refine seq_run0 (stp_assign (.rptr _ _ _ _ _) rfl) ?_
        refine awp_plain hN rfl ?_
        refine seq_run0 (stp_move (.rptr _ _ _ _ _) rfl) ?_
        refine seq_run0 (stp_move (.rptr _ _ _ _ _) rfl) ?_
        refine seq_run0 (stp_move (.ptr _ _) rfl) ?_
        refine seq_run0 (stp_move (.rptr _ _ _ _ _) rfl) ?_
        refine seq_run0 (stp_nilR rfl) ?_
        refine seq_run0 (stp_fldR tyF120_0 rfl) ?_
        refine seq_run1 (t_loadR1 tyS9 rfl rfl (at_some h17).2 rfl) rfl ?_
        refine seq_run0 (stp_dat (u' := vlst (List.map C_string [x16.Id, [], [99, 97]])) (stp_lit [[_], [_], [_]] tyL73 ⟨rfl, .inl ⟨_, rfl, rfl, rfl⟩, rfl, rfl, .inl ⟨_, rfl, rfl, rfl⟩, rfl, rfl, .inl ⟨_, rfl, rfl, rfl⟩, rfl, trivial⟩ rfl rfl) rfl) ?_
        obtain ⟨r18, h19, H⟩ := bnd H
        refine seq_run2 (stp_imp (k_gatemake_Stream_Some r14.2 ([x16.Id, [], [99, 97]]) r18 h19) rfl ⟨.inl rfl, trivial⟩ rfl) rfl ?_
        refine seq_run0 (stp_move (.ptr _ _) rfl) ?_
        obtain ⟨r20, h21, H⟩ := bnd H
        refine seq_run2 (stp_imp (k_gatemake_Stream_Odd r18.2 0 100 r20 h21) rfl ⟨.inl rfl, .inl rfl, trivial⟩ rfl) rfl ?_
        refine seq_run0 (stp_nilR rfl) ?_
        refine seq_run0 (stp_fldR tyF120_0 rfl) ?_
        refine seq_run2 (t_storeR (S_api_Call.mk r18.1 x16.At) tyS9 rfl rfl rfl rfl (at_some h17).2 rfl rfl) rfl ?_
        refine seq_run0 (stp_nilR rfl) ?_
        refine seq_run0 (stp_fldR tyF120_1 rfl) ?_
        refine seq_run2 (t_storeR (S_api_Call.mk r18.1 r20.1) tyS3 rfl rfl rfl (by simp) (set_at (at_some h17).2) rfl rfl) rfl ?_
        exact ⟨(((r3.1.set r14.1.toNat (S_api_Call.mk r18.1 x16.At)).set r14.1.toNat (S_api_Call.mk r18.1 r20.1)), r20.2.L, r20.2.at_), H, ⟨congrArg (Slot.row 1) (by simp), trivial⟩, ⟨rfl, rfl, trivial⟩⟩
      · replace H := iff_ h13 H
        refine awp_skip ?_
        exact ⟨(r3.1, c11, c12), H, ⟨rfl, trivial⟩, ⟨rfl, rfl, trivial⟩⟩
  · rintro ⟨out22, c23, c24⟩ H
    replace H : gatemake_Stream_Calls_J1 out22 c23 c24 = some r := H
    unfold gatemake_Stream_Calls_J1 at H
    refine awp_seq ?_
    refine awp_plain hN rfl ?_
    refine seq_run0 (stp_move (.row _ _) rfl) ?_
    refine seq_run0 (stp_assign (.row _ _) rfl) ?_
    refine awp_ret ?_
    cases H
    exact ⟨trivial, ⟨t_slotv rfl rfl, trivial⟩, rfl⟩
theorem k_gatemake_Stream_RightPhases (s1 : S_gatemake_Stream) (l2 : (List S_api_Instance)) (r : ((List S_api_Phase) × S_gatemake_Stream)) (H : m_gatemake_Stream_RightPhases s1 l2 = some r) : Imp Try.prog 88 25 (C_gatemake_Stream s1) [vlst (List.map C_api_Instance l2)] (resOf [vlst (List.map C_api_Phase r.1)]) (C_gatemake_Stream r.2) := by
  refine imp_of (us := [vlst (List.map C_api_Phase r.1)]) (cs' := (C_gatemake_Stream r.2)) (by kernel_rfl) Try.func88 rfl rfl rfl rfl fun X bl hN => ?_
  unfold m_gatemake_Stream_RightPhases at H
  refine awp_seq ?_
  refine awp_plain hN rfl ?_
  refine seq_run0 (stp_assign (.dat _) rfl) ?_
  refine awp_seq ?_
  refine awp_plain hN rfl ?_
  refine seq_run0 (stp_assign (.dat _) rfl) ?_
  refine awp_seq ?_
  refine awp_seq ?_
  refine awp_plain hN rfl ?_
  refine seq_run0 (stp_move (.dat _) rfl) ?_
  refine seq_run0 (t_len tyU48 rfl) ?_
  refine seq_run0 (stp_move (.dat _) rfl) ?_
  refine awp_block ?_
  refine awp_nilrow 5 1 125 5 rfl rfl rfl ?_
  obtain ⟨h8, H⟩ := gif H
  refine awp_forL (fun (k6 : Nat) (s : (List Int) × Int × (List S_api_Phase)) => [(0, .ptr 0 0), (5, .row 1 s.2.2.length), (10, .dat (vlst (List.map C_api_Instance l2))), (11, .dat (vint (l2.length : Int))), (12, .dat (vint (k6 : Int)))]) (fun (k6 : Nat) (s : (List Int) × Int × (List S_api_Phase)) => [(0, .box (some bl) 25 [.dat (vlst (List.map C_int s.1)), .dat (vint s.2.1)]), (1, .row 125 5 (List.map C_api_Phase s.2.2))]) (s1.L, s1.at_, []) H ⟨rfl, congrArg (Slot.row 1) (by simp), rfl, rfl, rfl, trivial⟩ ⟨rfl, rfl, trivial⟩ (fun _ _ => rfl) ?_ ?_
  · rintro ⟨c3, c4, l5⟩ H
    replace H : gatemake_Stream_RightPhases_E1 c3 c4 l5 = some r := H
    unfold gatemake_Stream_RightPhases_E1 at H
    refine awp_seq ?_
    refine awp_plain hN rfl ?_
    refine seq_run0 (stp_lss rfl rfl) ?_
    refine awp_seq ?_
    refine awp_cond _ rfl (fun h => (lt_t h).elim) (fun h => ?_)
    refine awp_exit ?_
    refine awp_seq ?_
    refine awp_plain hN rfl ?_
    refine seq_run0 (stp_move (.row _ _) rfl) ?_
    refine seq_run0 (stp_assign (.row _ _) rfl) ?_
    refine awp_ret ?_
    cases H
    exact ⟨trivial, ⟨t_slotv rfl rfl, trivial⟩, rfl⟩
  · rintro k6 x9 ⟨c3, c4, l5⟩ q7 h10 h11 H hq7
    replace H : gatemake_Stream_RightPhases_L1 k6 x9 c3 c4 l5 = some q7 := H
    unfold gatemake_Stream_RightPhases_L1 at H
    refine awp_seq ?_
    refine awp_plain hN rfl ?_
    refine seq_run0 (stp_lss rfl rfl) ?_
    refine awp_seq ?_
    refine awp_cond _ rfl (fun h => ?_) (fun h => (lt_f h10 h).elim)
    refine awp_skip ?_
    refine awp_seq ?_
    refine awp_block ?_
    refine awp_seq ?_
    refine awp_plain hN rfl ?_
    refine seq_run0 (t_idx tyE48 (fun _ => rfl) rfl rfl h11) ?_
    refine seq_run0 (stp_loadEA tyS114 rfl (map_at h11) rfl) ?_
    refine seq_run2 (stp_alloc 2 tyZ114 rfl) rfl ?_
    refine seq_run2 (stp_storeW tyS114 rfl rfl rfl rfl) rfl ?_
    refine awp_seq ?_
    refine awp_plain hN rfl ?_
    refine seq_run0 (stp_assign (.dat _) rfl) ?_
    refine awp_seq ?_
    refine awp_plain hN rfl ?_
    refine seq_run0 (stp_move (.ptr _ _) rfl) ?_
    obtain ⟨r12, h13, H⟩ := bnd H
    refine seq_run2 (stp_imp (k_gatemake_Stream_Range (S_gatemake_Stream.mk c3 c4) 0 3 r12 h13) rfl ⟨.inl rfl, .inl rfl, trivial⟩ rfl) rfl ?_
    refine seq_run0 (stp_move (.dat _) rfl) ?_
    refine awp_block ?_
    obtain ⟨h20, H⟩ := gif H
    refine awp_rng (fun (k18 : Nat) (s : Int × (List Int) × Int × (List S_api_Phase)) => [(0, .ptr 0 0), (5, .row 1 s.2.2.2.length), (7, .ptr 2 0), (8, .dat (vint s.1)), (10, .dat (vlst (List.map C_api_Instance l2))), (11, .dat (vint (l2.length : Int))), (12, .dat (vint (k6 : Int))), (17, .dat (vint r12.1)), (18, .dat (vint (k18 : Int)))]) (fun (k18 : Nat) (s : Int × (List Int) × Int × (List S_api_Phase)) => [(0, .box (some bl) 25 [.dat (vlst (List.map C_int s.2.1)), .dat (vint s.2.2.1)]), (1, .row 125 5 (List.map C_api_Phase s.2.2.2)), (2, .box none 114 [.dat (vstr x9.Key), .dat (vint x9.Weight)])]) (0, r12.2.L, r12.2.at_, l5) H ⟨rfl, rfl, rfl, rfl, rfl, rfl, rfl, rfl, rfl, trivial⟩ ⟨rfl, rfl, rfl, trivial⟩ (fun _ _ => rfl) ?_ ?_
    · rintro ⟨v14, c15, c16, l17⟩ H
      replace H : gatemake_Stream_RightPhases_E2 v14 c15 c16 l17 = some q7 := H
      unfold gatemake_Stream_RightPhases_E2 at H
      refine awp_seq ?_
      refine awp_plain hN rfl ?_
      refine seq_run0 (stp_lss rfl rfl) ?_
      refine awp_seq ?_
      refine awp_cond _ rfl (fun h => (lt_tI h).elim) (fun h => ?_)
      refine awp_exit ?_
      refine awp_plain hN rfl ?_
      refine seq_run0 (stp_add rfl rfl (by omega)) ?_
      refine seq_run0 (stp_move (.dat _) rfl) ?_
      exact ⟨_, backl H, ⟨rfl, rfl, rfl, rfl, rfl, trivial⟩, ⟨rfl, rfl, trivial⟩⟩
    · rintro k18 ⟨v14, c15, c16, l17⟩ q19 h21 H hq19
      replace H : gatemake_Stream_RightPhases_L2 x9 k18 v14 c15 c16 l17 = some q19 := H
      unfold gatemake_Stream_RightPhases_L2 at H
      refine awp_seq ?_
      refine awp_plain hN rfl ?_
      refine seq_run0 (stp_lss rfl rfl) ?_
      refine awp_seq ?_
      refine awp_cond _ rfl (fun h => ?_) (fun h => (lt_fI h21 h).elim)
      refine awp_skip ?_
      refine awp_seq ?_
      refine awp_block ?_
      refine awp_seq ?_
      refine awp_plain hN rfl ?_
      refine seq_run0 (stp_move (.dat _) rfl) ?_
      refine seq_run0 (stp_move (.ptr _ _) rfl) ?_
      refine seq_run0 (stp_dat (u' := vlst (List.map C_int [0, 0, 20])) (stp_lit [[_], [_], [_]] tyL22 ⟨rfl, .inl ⟨_, rfl, rfl, rfl⟩, rfl, rfl, .inl ⟨_, rfl, rfl, rfl⟩, rfl, rfl, .inl ⟨_, rfl, rfl, rfl⟩, rfl, trivial⟩ rfl rfl) rfl) ?_
      obtain ⟨r22, h23, H⟩ := bnd H
      refine seq_run2 (stp_imp (k_gatemake_Stream_Pick (S_gatemake_Stream.mk c15 c16) [0, 0, 20] r22 h23) rfl ⟨.inl rfl, trivial⟩ rfl) rfl ?_
      refine seq_run0 (stp_wrap _ rfl rfl (.inl ⟨rfl, rfl⟩)) ?_
      refine seq_run0 (stp_assign (.dat _) rfl) ?_
      refine awp_seq ?_
      refine awp_plain hN rfl ?_
      refine seq_run0 (stp_move (.dat _) rfl) ?_
      refine seq_run0 (stp_move (.ptr _ _) rfl) ?_
      refine seq_run0 (stp_dat (u' := vlst (List.map C_int [10, 30, 100, 1000])) (stp_lit [[_], [_], [_], [_]] tyL22 ⟨rfl, .inl ⟨_, rfl, rfl, rfl⟩, rfl, rfl, .inl ⟨_, rfl, rfl, rfl⟩, rfl, rfl, .inl ⟨_, rfl, rfl, rfl⟩, rfl, rfl, .inl ⟨_, rfl, rfl, rfl⟩, rfl, trivial⟩ rfl rfl) rfl) ?_
      obtain ⟨r24, h25, H⟩ := bnd H
      refine seq_run2 (stp_imp (k_gatemake_Stream_Pick r22.2 [10, 30, 100, 1000] r24 h25) rfl ⟨.inl rfl, trivial⟩ rfl) rfl ?_
      refine seq_run0 (stp_wrap _ rfl rfl (.inl ⟨rfl, rfl⟩)) ?_
      refine seq_run0 (stp_assign (.dat _) rfl) ?_
      refine awp_seq ?_
      refine awp_draw mixed hN rfl rfl ?_
      refine seq_run0 (stp_move (.row _ _) rfl) ?_
      refine seq_run0 (stp_fldP tyF114_0 rfl) ?_
      refine seq_run1 (stp_load1 tyS9 rfl rfl) rfl ?_
      refine seq_run0 (stp_move (.dat _) rfl) ?_
      refine seq_run0 (stp_move (.dat _) rfl) ?_
      refine seq_run0 (stp_dat (u' := vagg (C_api_Window (S_api_Window.mk (wr (v14 + r22.1)) (wr ((wr (v14 + r22.1)) + r24.1))))) (stp_build [(0, [vint (wr (v14 + r22.1))]), (1, [vint (wr ((wr (v14 + r22.1)) + r24.1))])] tyZ123 tyP123 rfl ⟨rfl, .inl ⟨_, rfl, rfl, rfl⟩, rfl, rfl, .inl ⟨_, rfl, rfl, rfl⟩, rfl, trivial⟩) rfl) ?_
      refine seq_run0 (stp_move (.ptr _ _) rfl) ?_
      refine seq_run0 (stp_dat (u' := vlst (List.map C_int [200, 200, 404, 500, 503])) (stp_lit [[_], [_], [_], [_], [_]] tyL22 ⟨rfl, .inl ⟨_, rfl, rfl, rfl⟩, rfl, rfl, .inl ⟨_, rfl, rfl, rfl⟩, rfl, rfl, .inl ⟨_, rfl, rfl, rfl⟩, rfl, rfl, .inl ⟨_, rfl, rfl, rfl⟩, rfl, rfl, .inl ⟨_, rfl, rfl, rfl⟩, rfl, trivial⟩ rfl rfl) rfl) ?_
      obtain ⟨r26, h27, H⟩ := bnd H
      refine seq_run2 (stp_imp (k_gatemake_Stream_Pick r24.2 [200, 200, 404, 500, 503] r26 h27) rfl ⟨.inl rfl, trivial⟩ rfl) rfl ?_
      refine seq_run0 (stp_move (.ptr _ _) rfl) ?_
      refine seq_run0 (stp_dat (u' := vlst (List.map C_int [0, 0, 3, 10, 20, 50])) (stp_lit [[_], [_], [_], [_], [_], [_]] tyL22 ⟨rfl, .inl ⟨_, rfl, rfl, rfl⟩, rfl, rfl, .inl ⟨_, rfl, rfl, rfl⟩, rfl, rfl, .inl ⟨_, rfl, rfl, rfl⟩, rfl, rfl, .inl ⟨_, rfl, rfl, rfl⟩, rfl, rfl, .inl ⟨_, rfl, rfl, rfl⟩, rfl, rfl, .inl ⟨_, rfl, rfl, rfl⟩, rfl, trivial⟩ rfl rfl) rfl) ?_
      obtain ⟨r28, h29, H⟩ := bnd H
      refine seq_run2 (stp_imp (k_gatemake_Stream_Pick r26.2 [0, 0, 3, 10, 20, 50] r28 h29) rfl ⟨.inl rfl, trivial⟩ rfl) rfl ?_
      refine seq_run0 (stp_dat (u' := vagg (C_api_Phase (S_api_Phase.mk x9.Key (S_api_Window.mk (wr (v14 + r22.1)) (wr ((wr (v14 + r22.1)) + r24.1))) r26.1 r28.1))) (stp_build [(0, [vstr x9.Key]), (1, C_api_Window (S_api_Window.mk (wr (v14 + r22.1)) (wr ((wr (v14 + r22.1)) + r24.1)))), (3, [vint r26.1]), (4, [vint r28.1])] tyZ125 tyP125 rfl ⟨rfl, .inl ⟨_, rfl, rfl, rfl⟩, rfl, rfl, .inr rfl, rfl, rfl, .inl ⟨_, rfl, rfl, rfl⟩, rfl, rfl, .inl ⟨_, rfl, rfl, rfl⟩, rfl, trivial⟩) rfl) ?_
      refine seq_run0 (stp_dat (u' := vlst (List.map C_api_Phase [(S_api_Phase.mk x9.Key (S_api_Window.mk (wr (v14 + r22.1)) (wr ((wr (v14 + r22.1)) + r24.1))) r26.1 r28.1)])) (stp_lit [_] tyL58 ⟨rfl, .inr rfl, rfl, trivial⟩ rfl rfl) rfl) ?_
      obtain ⟨h30, H⟩ := gif H
      refine seq_run2 (t_app tyL58 (fun _ => rfl) rfl rfl rfl ⟨by simp, by simpa using h30⟩ rfl) rfl ?_
      refine seq_run0 (stp_assign (.row _ _) rfl) ?_
      refine ⟨rfl, ?_⟩
      refine awp_plain hN rfl ?_
      refine seq_run0 (stp_move (.dat _) rfl) ?_
      refine seq_run0 (stp_assign (.dat _) rfl) ?_
      refine awp_plain hN rfl ?_
      refine seq_run0 (stp_add rfl rfl (by omega)) ?_
      refine seq_run0 (stp_move (.dat _) rfl) ?_
      exact ⟨_, backl H, ⟨rfl, rfl, rfl, rfl, rfl, rfl, rfl, rfl, rfl, trivial⟩, ⟨rfl, rfl, rfl, trivial⟩⟩
theorem kr_gatemake_Stream_RightPhases (s1 : S_gatemake_Stream) (l2 : (List S_api_Instance)) (r : ((List S_api_Phase) × S_gatemake_Stream)) (H : m_gatemake_Stream_RightPhases s1 l2 = some r) : FnG Try.prog 88 [.ptr 0 0, .dat (vlst (List.map C_api_Instance l2))] [(0, .box (some 0) 25 (List.map .dat (C_gatemake_Stream s1)))] (.row 1 r.1.length) [(0, .box (some 0) 25 (List.map .dat (C_gatemake_Stream r.2))), (1, .row 125 5 (List.map C_api_Phase r.1))] := by
  refine fnG_of (by kernel_rfl) Try.func88 rfl rfl rfl rfl fun X A hN => ?_
  unfold m_gatemake_Stream_RightPhases at H
  refine awp_seq ?_
  refine awp_plain hN rfl ?_
  refine seq_run0 (stp_assign (.dat _) rfl) ?_
  refine awp_seq ?_
  refine awp_plain hN rfl ?_
  refine seq_run0 (stp_assign (.dat _) rfl) ?_
  refine awp_seq ?_
  refine awp_seq ?_
  refine awp_plain hN rfl ?_
  refine seq_run0 (stp_move (.dat _) rfl) ?_
  refine seq_run0 (t_len tyU48 rfl) ?_
  refine seq_run0 (stp_move (.dat _) rfl) ?_
  refine awp_block ?_
  refine awp_nilrow 5 1 125 5 rfl rfl rfl ?_
  obtain ⟨h8, H⟩ := gif H
  refine awp_forL (fun (k6 : Nat) (s : (List Int) × Int × (List S_api_Phase)) => [(0, .ptr 0 0), (5, .row 1 s.2.2.length), (10, .dat (vlst (List.map C_api_Instance l2))), (11, .dat (vint (l2.length : Int))), (12, .dat (vint (k6 : Int)))]) (fun (k6 : Nat) (s : (List Int) × Int × (List S_api_Phase)) => [(0, .box (some (A.bl 0)) 25 [.dat (vlst (List.map C_int s.1)), .dat (vint s.2.1)]), (1, .row 125 5 (List.map C_api_Phase s.2.2))]) (s1.L, s1.at_, []) H ⟨rfl, congrArg (Slot.row 1) (by simp), rfl, rfl, rfl, trivial⟩ ⟨rfl, rfl, trivial⟩ (fun _ _ => rfl) ?_ ?_
  · rintro ⟨c3, c4, l5⟩ H
    replace H : gatemake_Stream_RightPhases_E1 c3 c4 l5 = some r := H
    unfold gatemake_Stream_RightPhases_E1 at H
    refine awp_seq ?_
    refine awp_plain hN rfl ?_
    refine seq_run0 (stp_lss rfl rfl) ?_
    refine awp_seq ?_
    refine awp_cond _ rfl (fun h => (lt_t h).elim) (fun h => ?_)
    refine awp_exit ?_
    refine awp_seq ?_
    refine awp_plain hN rfl ?_
    refine seq_run0 (stp_move (.row _ _) rfl) ?_
    refine seq_run0 (stp_assign (.row _ _) rfl) ?_
    refine awp_ret ?_
    cases H
    exact ⟨trivial, [(4, .row 1 l5.length)], ⟨rfl, trivial⟩, ⟨rfl, rfl, trivial⟩, rfl, .inr ⟨4, rfl, rfl⟩⟩
  · rintro k6 x9 ⟨c3, c4, l5⟩ q7 h10 h11 H hq7
    replace H : gatemake_Stream_RightPhases_L1 k6 x9 c3 c4 l5 = some q7 := H
    unfold gatemake_Stream_RightPhases_L1 at H
    refine awp_seq ?_
    refine awp_plain hN rfl ?_
    refine seq_run0 (stp_lss rfl rfl) ?_
    refine awp_seq ?_
    refine awp_cond _ rfl (fun h => ?_) (fun h => (lt_f h10 h).elim)
    refine awp_skip ?_
    refine awp_seq ?_
    refine awp_block ?_
    refine awp_seq ?_
    refine awp_plain hN rfl ?_
    refine seq_run0 (t_idx tyE48 (fun _ => rfl) rfl rfl h11) ?_
    refine seq_run0 (stp_loadEA tyS114 rfl (map_at h11) rfl) ?_
    refine seq_run2 (stp_alloc 2 tyZ114 rfl) rfl ?_
    refine seq_run2 (stp_storeW tyS114 rfl rfl rfl rfl) rfl ?_
    refine awp_seq ?_
    refine awp_plain hN rfl ?_
    refine seq_run0 (stp_assign (.dat _) rfl) ?_
    refine awp_seq ?_
    refine awp_plain hN rfl ?_
    refine seq_run0 (stp_move (.ptr _ _) rfl) ?_
    obtain ⟨r12, h13, H⟩ := bnd H
    refine seq_run2 (stp_imp (k_gatemake_Stream_Range (S_gatemake_Stream.mk c3 c4) 0 3 r12 h13) rfl ⟨.inl rfl, .inl rfl, trivial⟩ rfl) rfl ?_
    refine seq_run0 (stp_move (.dat _) rfl) ?_
    refine awp_block ?_
    obtain ⟨h20, H⟩ := gif H
    refine awp_rng (fun (k18 : Nat) (s : Int × (List Int) × Int × (List S_api_Phase)) => [(0, .ptr 0 0), (5, .row 1 s.2.2.2.length), (7, .ptr 2 0), (8, .dat (vint s.1)), (10, .dat (vlst (List.map C_api_Instance l2))), (11, .dat (vint (l2.length : Int))), (12, .dat (vint (k6 : Int))), (17, .dat (vint r12.1)), (18, .dat (vint (k18 : Int)))]) (fun (k18 : Nat) (s : Int × (List Int) × Int × (List S_api_Phase)) => [(0, .box (some (A.bl 0)) 25 [.dat (vlst (List.map C_int s.2.1)), .dat (vint s.2.2.1)]), (1, .row 125 5 (List.map C_api_Phase s.2.2.2)), (2, .box none 114 [.dat (vstr x9.Key), .dat (vint x9.Weight)])]) (0, r12.2.L, r12.2.at_, l5) H ⟨rfl, rfl, rfl, rfl, rfl, rfl, rfl, rfl, rfl, trivial⟩ ⟨rfl, rfl, rfl, trivial⟩ (fun _ _ => rfl) ?_ ?_
    · rintro ⟨v14, c15, c16, l17⟩ H
      replace H : gatemake_Stream_RightPhases_E2 v14 c15 c16 l17 = some q7 := H
      unfold gatemake_Stream_RightPhases_E2 at H
      refine awp_seq ?_
      refine awp_plain hN rfl ?_
      refine seq_run0 (stp_lss rfl rfl) ?_
      refine awp_seq ?_
      refine awp_cond _ rfl (fun h => (lt_tI h).elim) (fun h => ?_)
      refine awp_exit ?_
      refine awp_plain hN rfl ?_
      refine seq_run0 (stp_add rfl rfl (by omega)) ?_
      refine seq_run0 (stp_move (.dat _) rfl) ?_
      exact ⟨_, backl H, ⟨rfl, rfl, rfl, rfl, rfl, trivial⟩, ⟨rfl, rfl, trivial⟩⟩
    · rintro k18 ⟨v14, c15, c16, l17⟩ q19 h21 H hq19
      replace H : gatemake_Stream_RightPhases_L2 x9 k18 v14 c15 c16 l17 = some q19 := H
      unfold gatemake_Stream_RightPhases_L2 at H
      refine awp_seq ?_
      refine awp_plain hN rfl ?_
      refine seq_run0 (stp_lss rfl rfl) ?_
      refine awp_seq ?_
      refine awp_cond _ rfl (fun h => ?_) (fun h => (lt_fI h21 h).elim)
      refine awp_skip ?_
      refine awp_seq ?_
      refine awp_block ?_
      refine awp_seq ?_
      refine awp_plain hN rfl ?_
      refine seq_run0 (stp_move (.dat _) rfl) ?_
      refine seq_run0 (stp_move (.ptr _ _) rfl) ?_
      refine seq_run0 (stp_dat (u' := vlst (List.map C_int [0, 0, 20])) (stp_lit [[_], [_], [_]] tyL22 ⟨rfl, .inl ⟨_, rfl, rfl, rfl⟩, rfl, rfl, .inl ⟨_, rfl, rfl, rfl⟩, rfl, rfl, .inl ⟨_, rfl, rfl, rfl⟩, rfl, trivial⟩ rfl rfl) rfl) ?_
      obtain ⟨r22, h23, H⟩ := bnd H
      refine seq_run2 (stp_imp (k_gatemake_Stream_Pick (S_gatemake_Stream.mk c15 c16) [0, 0, 20] r22 h23) rfl ⟨.inl rfl, trivial⟩ rfl) rfl ?_
      refine seq_run0 (stp_wrap _ rfl rfl (.inl ⟨rfl, rfl⟩)) ?_
      refine seq_run0 (stp_assign (.dat _) rfl) ?_
      refine awp_seq ?_
      refine awp_plain hN rfl ?_
      refine seq_run0 (stp_move (.dat _) rfl) ?_
      refine seq_run0 (stp_move (.ptr _ _) rfl) ?_
      refine seq_run0 (stp_dat (u' := vlst (List.map C_int [10, 30, 100, 1000])) (stp_lit [[_], [_], [_], [_]] tyL22 ⟨rfl, .inl ⟨_, rfl, rfl, rfl⟩, rfl, rfl, .inl ⟨_, rfl, rfl, rfl⟩, rfl, rfl, .inl ⟨_, rfl, rfl, rfl⟩, rfl, rfl, .inl ⟨_, rfl, rfl, rfl⟩, rfl, trivial⟩ rfl rfl) rfl) ?_
      obtain ⟨r24, h25, H⟩ := bnd H
      refine seq_run2 (stp_imp (k_gatemake_Stream_Pick r22.2 [10, 30, 100, 1000] r24 h25) rfl ⟨.inl rfl, trivial⟩ rfl) rfl ?_
      refine seq_run0 (stp_wrap _ rfl rfl (.inl ⟨rfl, rfl⟩)) ?_
      refine seq_run0 (stp_assign (.dat _) rfl) ?_
      refine awp_seq ?_
      refine awp_draw mixed hN rfl rfl ?_
      refine seq_run0 (stp_move (.row _ _) rfl) ?_
      refine seq_run0 (stp_fldP tyF114_0 rfl) ?_
      refine seq_run1 (stp_load1 tyS9 rfl rfl) rfl ?_
      refine seq_run0 (stp_move (.dat _) rfl) ?_
      refine seq_run0 (stp_move (.dat _) rfl) ?_
      refine seq_run0 (stp_dat (u' := vagg (C_api_Window (S_api_Window.mk (wr (v14 + r22.1)) (wr ((wr (v14 + r22.1)) + r24.1))))) (stp_build [(0, [vint (wr (v14 + r22.1))]), (1, [vint (wr ((wr (v14 + r22.1)) + r24.1))])] tyZ123 tyP123 rfl ⟨rfl, .inl ⟨_, rfl, rfl, rfl⟩, rfl, rfl, .inl ⟨_, rfl, rfl, rfl⟩, rfl, trivial⟩) rfl) ?_
      refine seq_run0 (stp_move (.ptr _ _) rfl) ?_
      refine seq_run0 (stp_dat (u' := vlst (List.map C_int [200, 200, 404, 500, 503])) (stp_lit [[_], [_], [_], [_], [_]] tyL22 ⟨rfl, .inl ⟨_, rfl, rfl, rfl⟩, rfl, rfl, .inl ⟨_, rfl, rfl, rfl⟩, rfl, rfl, .inl ⟨_, rfl, rfl, rfl⟩, rfl, rfl, .inl ⟨_, rfl, rfl, rfl⟩, rfl, rfl, .inl ⟨_, rfl, rfl, rfl⟩, rfl, trivial⟩ rfl rfl) rfl) ?_
      obtain ⟨r26, h27, H⟩ := bnd H
      refine seq_run2 (stp_imp (k_gatemake_Stream_Pick r24.2 [200, 200, 404, 500, 503] r26 h27) rfl ⟨.inl rfl, trivial⟩ rfl) rfl ?_
      refine seq_run0 (stp_move (.ptr _ _) rfl) ?_
      refine seq_run0 (stp_dat (u' := vlst (List.map C_int [0, 0, 3, 10, 20, 50])) (stp_lit [[_], [_], [_], [_], [_], [_]] tyL22 ⟨rfl, .inl ⟨_, rfl, rfl, rfl⟩, rfl, rfl, .inl ⟨_, rfl, rfl, rfl⟩, rfl, rfl, .inl ⟨_, rfl, rfl, rfl⟩, rfl, rfl, .inl ⟨_, rfl, rfl, rfl⟩, rfl, rfl, .inl ⟨_, rfl, rfl, rfl⟩, rfl, rfl, .inl ⟨_, rfl, rfl, rfl⟩, rfl, trivial⟩ rfl rfl) rfl) ?_
      obtain ⟨r28, h29, H⟩ := bnd H
      refine seq_run2 (stp_imp (k_gatemake_Stream_Pick r26.2 [0, 0, 3, 10, 20, 50] r28 h29) rfl ⟨.inl rfl, trivial⟩ rfl) rfl ?_
      refine seq_run0 (stp_dat (u' := vagg (C_api_Phase (S_api_Phase.mk x9.Key (S_api_Window.mk (wr (v14 + r22.1)) (wr ((wr (v14 + r22.1)) + r24.1))) r26.1 r28.1))) (stp_build [(0, [vstr x9.Key]), (1, C_api_Window (S_api_Window.mk (wr (v14 + r22.1)) (wr ((wr (v14 + r22.1)) + r24.1)))), (3, [vint r26.1]), (4, [vint r28.1])] tyZ125 tyP125 rfl ⟨rfl, .inl ⟨_, rfl, rfl, rfl⟩, rfl, rfl, .inr rfl, rfl, rfl, .inl ⟨_, rfl, rfl, rfl⟩, rfl, rfl, .inl ⟨_, rfl, rfl, rfl⟩, rfl, trivial⟩) rfl) ?_
      refine seq_run0 (stp_dat (u' := vlst (List.map C_api_Phase [(S_api_Phase.mk x9.Key (S_api_Window.mk (wr (v14 + r22.1)) (wr ((wr (v14 + r22.1)) + r24.1))) r26.1 r28.1)])) (stp_lit [_] tyL58 ⟨rfl, .inr rfl, rfl, trivial⟩ rfl rfl) rfl) ?_
      obtain ⟨h30, H⟩ := gif H
      refine seq_run2 (t_app tyL58 (fun _ => rfl) rfl rfl rfl ⟨by simp, by simpa using h30⟩ rfl) rfl ?_
      refine seq_run0 (stp_assign (.row _ _) rfl) ?_
      refine ⟨rfl, ?_⟩
      refine awp_plain hN rfl ?_
      refine seq_run0 (stp_move (.dat _) rfl) ?_
      refine seq_run0 (stp_assign (.dat _) rfl) ?_
      refine awp_plain hN rfl ?_
      refine seq_run0 (stp_add rfl rfl (by omega)) ?_
      refine seq_run0 (stp_move (.dat _) rfl) ?_
      exact ⟨_, backl H, ⟨rfl, rfl, rfl, rfl, rfl, rfl, rfl, rfl, rfl, trivial⟩, ⟨rfl, rfl, rfl, trivial⟩⟩
theorem k_gatemake_Stream_Phases (s1 : S_gatemake_Stream) (l2 : (List S_api_Instance)) (r : ((List S_api_Phase) × S_gatemake_Stream)) (H : m_gatemake_Stream_Phases s1 l2 = some r) : Imp Try.prog 25 25 (C_gatemake_Stream s1) [vlst (List.map C_api_Instance l2)] (resOf [vlst (List.map C_api_Phase r.1)]) (C_gatemake_Stream r.2) := by
  refine imp_of (us := [vlst (List.map C_api_Phase r.1)]) (cs' := (C_gatemake_Stream r.2)) (by kernel_rfl) Try.func25 rfl rfl rfl rfl fun X bl hN => ?_
  unfold m_gatemake_Stream_Phases at H
  refine awp_seq ?_
  refine awp_plain hN rfl ?_
  refine seq_run0 (stp_assign (.dat _) rfl) ?_
  refine awp_seq ?_
  refine awp_plain hN rfl ?_
  refine seq_run0 (stp_move (.ptr _ _) rfl) ?_
  refine seq_run0 (stp_move (.dat _) rfl) ?_
  obtain ⟨r3, h4, H⟩ := bnd H
  refine seq_callG (rn [(0, 0), (1, 1)]) [(0, _, _, some _)] [(1, _)] (kr_gatemake_Stream_RightPhases s1 l2 r3 h4) ⟨rfl, rfl, trivial⟩ ⟨.inl (.inl rfl), .inl (.inl rfl), trivial⟩ ⟨⟨⟨rfl, rfl⟩, trivial⟩, trivial⟩ rfl ?_
  refine seq_run0 (stp_assign (.row _ _) rfl) ?_
  refine awp_joinE (ι := (List S_api_Phase) × (List Int) × Int) (fun i => [(5, .row 1 i.1.length)]) (fun i => [(0, .box (some bl) 25 [.dat (vlst (List.map C_int i.2.1)), .dat (vint i.2.2)]), (1, .row 125 5 (List.map C_api_Phase i.1))]) (fun i => gatemake_Stream_Phases_J1 i.1 i.2.1 i.2.2 = some r) (fun i => rfl) ?_ ?_
  · skip
    refine awp_joinE (ι := Bool × (List Int) × Int) (fun i => [(0, .ptr 0 0), (5, .row 1 r3.1.length), (16, .dat (vbool i.1))]) (fun i => [(0, .box (some bl) 25 [.dat (vlst (List.map C_int i.2.1)), .dat (vint i.2.2)]), (1, .row 125 5 (List.map C_api_Phase r3.1))]) (fun i => gatemake_Stream_Phases_J2 r3 i.1 i.2.1 i.2.2 = some r) (fun i => rfl) ?_ ?_
    · skip
      refine awp_plain hN rfl ?_
      refine seq_run0 (stp_move (.row _ _) rfl) ?_
      refine seq_run1 (t_lenR tyU58 rfl rfl) rfl ?_
      refine seq_run0 (stp_gtr rfl rfl) ?_
      refine seq_run0 (stp_move (.dat _) rfl) ?_
      refine seq_split (j := 3) rfl rfl (fun h5 => ?_) (fun h5 => ?_) rfl
      · have h6 := un1 h5
        replace H := ift h6 H
        refine seq_g0 rfl rfl h5 (stp_move (.ptr _ _) rfl) ?_
        obtain ⟨r7, h8, H⟩ := bnd H
        refine seq_g2 rfl rfl h5 (stp_imp (k_gatemake_Stream_Flip r3.2 12 r7 h8) rfl ⟨.inl rfl, trivial⟩ rfl) rfl ?_
        refine seq_run0 (stp_pick_t rfl (bTT h6) rfl) ?_
        exact ⟨(r7.1, r7.2.L, r7.2.at_), H, ⟨rfl, rfl, rfl, trivial⟩, ⟨rfl, rfl, trivial⟩⟩
      · have h9 := un2 h5
        replace H := iff_ h9 H
        refine seq_skip rfl rfl h5 ?_
        refine seq_skip rfl rfl h5 ?_
        refine seq_run0 (stp_pick_f rfl (bFF h9) rfl) ?_
        exact ⟨(false, r3.2.L, r3.2.at_), H, ⟨rfl, rfl, rfl, trivial⟩, ⟨rfl, rfl, trivial⟩⟩
    · rintro ⟨v10, c11, c12⟩ H
      replace H : gatemake_Stream_Phases_J2 r3 v10 c11 c12 = some r := H
      unfold gatemake_Stream_Phases_J2 at H
      refine awp_cond _ rfl (fun h13 => ?_) (fun h13 => ?_)
      · replace H := ift h13 H
        refine awp_seq ?_
        refine awp_plain hN rfl ?_
        refine seq_run0 (stp_move (.row _ _) rfl) ?_
        refine seq_run0 (stp_move (.ptr _ _) rfl) ?_
        refine seq_run0 (stp_move (.row _ _) rfl) ?_
        refine seq_run1 (t_lenR tyU58 rfl rfl) rfl ?_
        obtain ⟨r14, h15, H⟩ := bnd H
        refine seq_run2 (stp_imp (k_gatemake_Stream_Next (S_gatemake_Stream.mk c11 c12) (r3.1.length : Int) r14 h15) rfl ⟨.inl rfl, trivial⟩ rfl) rfl ?_
        obtain ⟨x16, h17, H⟩ := bnd H
        refine seq_run1 (t_idxRI tyE58 rfl rfl rfl h17) rfl ?_
        refine seq_run0 (stp_assign (.rptr _ _ _ _ _) rfl) ?_
        refine awp_plain hN rfl ?_
        refine seq_run0 (stp_move (.rptr _ _ _ _ _) rfl) ?_
        refine seq_run0 (stp_move (.rptr _ _ _ _ _) rfl) ?_
        refine seq_run0 (stp_move (.rptr _ _ _ _ _) rfl) ?_
        refine seq_run0 (stp_move (.rptr _ _ _ _ _) rfl) ?_
        refine seq_run0 (stp_move (.ptr _ _) rfl) ?_
        refine seq_run0 (stp_move (.rptr _ _ _ _ _) rfl) ?_
        refine seq_run0 (stp_nilR rfl) ?_
        refine seq_run0 (stp_fldR tyF125_0 rfl) ?_
        refine seq_run1 (t_loadR1 tyS9 rfl rfl (at_some h17).2 rfl) rfl ?_
        refine seq_run0 (stp_dat (u' := vlst (List.map C_string [x16.Instance, [110, 111, 110, 101]])) (stp_lit [[_], [_]] tyL73 ⟨rfl, .inl ⟨_, rfl, rfl, rfl⟩, rfl, rfl, .inl ⟨_, rfl, rfl, rfl⟩, rfl, trivial⟩ rfl rfl) rfl) ?_
        obtain ⟨r18, h19, H⟩ := bnd H
        refine seq_run2 (stp_imp (k_gatemake_Stream_Some r14.2 ([x16.Instance, [110, 111, 110, 101]]) r18 h19) rfl ⟨.inl rfl, trivial⟩ rfl) rfl ?_
        refine seq_run0 (stp_move (.ptr _ _) rfl) ?_
        obtain ⟨r20, h21, H⟩ := bnd H
        refine seq_run2 (stp_imp (k_gatemake_Stream_Odd r18.2 0 50 r20 h21) rfl ⟨.inl rfl, .inl rfl, trivial⟩ rfl) rfl ?_
        refine seq_run0 (stp_move (.ptr _ _) rfl) ?_
        obtain ⟨r22, h23, H⟩ := bnd H
        refine seq_run2 (stp_imp (k_gatemake_Stream_Odd r20.2 100 599 r22 h23) rfl ⟨.inl rfl, .inl rfl, trivial⟩ rfl) rfl ?_
        refine seq_run0 (stp_move (.ptr _ _) rfl) ?_
        obtain ⟨r24, h25, H⟩ := bnd H
        refine seq_run2 (stp_imp (k_gatemake_Stream_Odd r22.2 0 3600000 r24 h25) rfl ⟨.inl rfl, .inl rfl, trivial⟩ rfl) rfl ?_
        refine seq_run0 (stp_nilR rfl) ?_
        refine seq_run0 (stp_fldR tyF125_0 rfl) ?_
        refine seq_run2 (t_storeR (S_api_Phase.mk r18.1 x16.Time x16.Status x16.Took) tyS9 rfl rfl rfl rfl (at_some h17).2 rfl rfl) rfl ?_
        refine seq_run0 (stp_nilR rfl) ?_
        refine seq_run0 (stp_fldR tyF125_1 rfl) ?_
        refine seq_run0 (stp_fldR tyF123_0 rfl) ?_
        refine seq_run2 (t_storeR (S_api_Phase.mk r18.1 (S_api_Window.mk r20.1 x16.Time.To) x16.Status x16.Took) tyS3 rfl rfl rfl (by simp) (set_at (at_some h17).2) rfl rfl) rfl ?_
        refine seq_run0 (stp_nilR rfl) ?_
        refine seq_run0 (stp_fldR tyF125_2 rfl) ?_
        refine seq_run2 (t_storeR (S_api_Phase.mk r18.1 (S_api_Window.mk r20.1 x16.Time.To) r22.1 x16.Took) tyS3 rfl rfl rfl (by simp) (set_at (set_at (at_some h17).2)) rfl rfl) rfl ?_
        refine seq_run0 (stp_nilR rfl) ?_
        refine seq_run0 (stp_fldR tyF125_3 rfl) ?_
        refine seq_run2 (t_storeR (S_api_Phase.mk r18.1 (S_api_Window.mk r20.1 x16.Time.To) r22.1 r24.1) tyS3 rfl rfl rfl (by simp) (set_at (set_at (set_at (at_some h17).2))) rfl rfl) rfl ?_
        exact ⟨(((((r3.1.set r14.1.toNat (S_api_Phase.mk r18.1 x16.Time x16.Status x16.Took)).set r14.1.toNat (S_api_Phase.mk r18.1 (S_api_Window.mk r20.1 x16.Time.To) x16.Status x16.Took)).set r14.1.toNat (S_api_Phase.mk r18.1 (S_api_Window.mk r20.1 x16.Time.To) r22.1 x16.Took)).set r14.1.toNat (S_api_Phase.mk r18.1 (S_api_Window.mk r20.1 x16.Time.To) r22.1 r24.1)), r24.2.L, r24.2.at_), H, ⟨congrArg (Slot.row 1) (by simp), trivial⟩, ⟨rfl, rfl, trivial⟩⟩
      · replace H := iff_ h13 H
        refine awp_skip ?_
        exact ⟨(r3.1, c11, c12), H, ⟨rfl, trivial⟩, ⟨rfl, rfl, trivial⟩⟩
  · rintro ⟨out26, c27, c28⟩ H
    replace H : gatemake_Stream_Phases_J1 out26 c27 c28 = some r := H
    unfold gatemake_Stream_Phases_J1 at H
    refine awp_seq ?_
    refine awp_plain hN rfl ?_
    refine seq_run0 (stp_move (.row _ _) rfl) ?_
    refine seq_run0 (stp_assign (.row _ _) rfl) ?_
    refine awp_ret ?_
    cases H
    exact ⟨trivial, ⟨t_slotv rfl rfl, trivial⟩, rfl⟩
theorem k_gateref2_in (n1 : Int) (low2 : Int) (high3 : Int) (r : (Bool)) (H : m_gateref2_in n1 low2 high3 = some r) : Fn Try.prog 74 [vint n1, vint low2, vint high3] (resOf [vbool r]) := by
  refine ⟨by kernel_rfl, pure_of (us := [vbool r]) Try.func74 rfl rfl rfl rfl fun X hN => ?_⟩
  unfold m_gateref2_in at H
  refine awp_seq ?_
  refine awp_plain hN rfl ?_
  refine seq_run0 (stp_assign (.dat _) rfl) ?_
  refine awp_seq ?_
  refine awp_plain hN rfl ?_
  refine seq_run0 (stp_move (.dat _) rfl) ?_
  refine seq_run0 (stp_move (.dat _) rfl) ?_
  refine seq_run0 (stp_leq rfl rfl) ?_
  refine seq_run0 (stp_move (.dat _) rfl) ?_
  refine seq_aT rfl rfl (fun hc => stp_move (.dat _) rfl) ?_
  refine seq_aT rfl rfl (fun hc => stp_move (.dat _) rfl) ?_
  refine seq_aT rfl rfl (fun hc => stp_leq (cnd (c := (decide (low2 ≤ n1))) hc) (cnd (c := (decide (low2 ≤ n1))) hc)) ?_
  refine seq_run0 (stp_pick_and rfl (fun hb => (cnd (c := (decide (low2 ≤ n1))) hb)) rfl) ?_
  refine seq_run0 (stp_assign (.dat _) rfl) ?_
  refine awp_ret ?_
  cases H
  exact ⟨trivial, .inl rfl, trivial⟩
theorem k_gateref2_only (s1 : Bs) (some2 : Bs) (r : (Bool)) (H : m_gateref2_only s1 some2 = some r) : Fn Try.prog 120 [vstr s1, vstr some2] (resOf [vbool r]) := by
  refine ⟨by kernel_rfl, pure_of (us := [vbool r]) Try.func120 rfl rfl rfl rfl fun X hN => ?_⟩
  unfold m_gateref2_only at H
  refine awp_seq ?_
  refine awp_plain hN rfl ?_
  refine seq_run0 (stp_assign (.dat _) rfl) ?_
  refine awp_seq ?_
  refine awp_seq ?_
  refine awp_plain hN rfl ?_
  refine seq_run0 (stp_move (.dat _) rfl) ?_
  refine seq_run0 (stp_len_str tyU9 rfl) ?_
  refine seq_run0 (stp_move (.dat _) rfl) ?_
  refine awp_block ?_
  obtain ⟨h5, H⟩ := gif H
  refine awp_forL (fun (k3 : Nat) (s : Unit) => [(0, .dat (vstr s1)), (1, .dat (vstr some2)), (7, .dat (vint (s1.length : Int))), (8, .dat (vint (k3 : Int)))]) (fun (k3 : Nat) (s : Unit) => []) () H ⟨rfl, rfl, rfl, rfl, trivial⟩ trivial (fun _ _ => rfl) ?_ ?_
  · rintro ⟨⟩ H
    replace H : gateref2_only_E1 = some r := H
    unfold gateref2_only_E1 at H
    refine awp_seq ?_
    refine awp_plain hN rfl ?_
    refine seq_run0 (stp_lss rfl rfl) ?_
    refine awp_seq ?_
    refine awp_cond _ rfl (fun h => (lt_t h).elim) (fun h => ?_)
    refine awp_exit ?_
    refine awp_seq ?_
    refine awp_plain hN rfl ?_
    refine seq_run0 (stp_assign (.dat _) rfl) ?_
    refine awp_ret ?_
    cases H
    exact ⟨trivial, .inl rfl, trivial⟩
  · rintro k3 x6 ⟨⟩ q4 h7 h8 H hq4
    replace H : gateref2_only_L1 some2 k3 x6 = some q4 := H
    unfold gateref2_only_L1 at H
    refine awp_seq ?_
    refine awp_plain hN rfl ?_
    refine seq_run0 (stp_lss rfl rfl) ?_
    refine awp_seq ?_
    refine awp_cond _ rfl (fun h => ?_) (fun h => (lt_f h7 h).elim)
    refine awp_skip ?_
    refine awp_seq ?_
    refine awp_block ?_
    refine awp_seq ?_
    refine awp_plain hN rfl ?_
    refine seq_run0 (stp_move (.dat _) rfl) ?_
    refine seq_run0 (stp_assign (.dat _) rfl) ?_
    refine awp_seq ?_
    refine awp_plain hN rfl ?_
    refine seq_run0 (stp_move (.dat _) rfl) ?_
    refine seq_run0 (stp_move (.dat _) rfl) ?_
    refine seq_run0 (stp_move (.dat _) rfl) ?_
    refine seq_run0 (t_byte tyU9 rfl rfl h8) ?_
    obtain ⟨r9, h10, H⟩ := bnd H
    refine seq_run0 (stp_call (k_strings_IndexByte some2 (x6.toNat : Int) r9 h10) ⟨.inl rfl, .inl rfl, trivial⟩) ?_
    refine seq_run0 (stp_lss rfl rfl) ?_
    refine awp_cond _ rfl (fun h11 => ?_) (fun h11 => ?_)
    · replace H := ift h11 H
      refine awp_seq ?_
      refine awp_plain hN rfl ?_
      refine seq_run0 (stp_assign (.dat _) rfl) ?_
      refine awp_ret ?_
      replace H := retl H hq4
      cases H
      exact ⟨trivial, .inl rfl, trivial⟩
    · replace H := iff_ h11 H
      refine awp_skip ?_
      refine awp_plain hN rfl ?_
      refine seq_run0 (stp_add rfl rfl (by omega)) ?_
      refine seq_run0 (stp_move (.dat _) rfl) ?_
      exact ⟨_, backl H, ⟨rfl, rfl, rfl, rfl, trivial⟩, trivial⟩
end Go.Proofs.Ytmcegaabopcmfaa
