/- Walks along the models. Printed by a program. -/
import Derived.Test.YtmcegaabopcmfaaTc
namespace Go.Proofs.Ytmcegaabopcmfaa
open Go.RowKit
set_option linter.unusedVariables false
set_option maxRecDepth 20000
theorem k_gatemake_Below (x1 : Int) (n2 : Int) (r : (Int)) (H : m_gatemake_Below x1 n2 = some r) : Fn Try.prog 76 [vint x1, vint n2] (resOf [vint r]) := by
  refine ⟨by kernel_rfl, pure_of (us := [vint r]) Try.func76 rfl rfl rfl rfl fun X hN => ?_⟩
  unfold m_gatemake_Below at H
  refine awp_seq ?_
  refine awp_plain hN rfl ?_
  refine seq_run0 (stp_assign (.dat _) rfl) ?_
  refine awp_seq ?_
  refine awp_seq ?_
  refine awp_plain hN rfl ?_
  refine seq_run0 (stp_move (.dat _) rfl) ?_
  refine seq_run0 (stp_lss rfl rfl) ?_
  refine awp_cond _ rfl (fun h3 => ?_) (fun h3 => ?_)
  · replace H := ift h3 H
    refine awp_seq ?_
    refine awp_plain hN rfl ?_
    refine seq_run0 (stp_assign (.dat _) rfl) ?_
    refine awp_ret ?_
    cases H
    exact ⟨trivial, .inl rfl, trivial⟩
  · replace H := iff_ h3 H
    refine awp_skip ?_
    refine awp_seq ?_
    refine awp_plain hN rfl ?_
    refine seq_run0 (stp_move (.dat _) rfl) ?_
    refine seq_run0 (stp_move (.dat _) rfl) ?_
    obtain ⟨h4, H⟩ := gif H
    refine seq_run0 (stp_remT rfl rfl h4) ?_
    refine seq_run0 (stp_assign (.dat _) rfl) ?_
    refine awp_joinE (ι := Int) (fun i => [(0, .dat (vint i))]) (fun i => []) (fun i => gatemake_Below_J1 i = some r) (fun i => rfl) ?_ ?_
    · skip
      refine awp_seq ?_
      refine awp_plain hN rfl ?_
      refine seq_run0 (stp_move (.dat _) rfl) ?_
      refine seq_run0 (stp_lss rfl rfl) ?_
      refine awp_cond _ rfl (fun h5 => ?_) (fun h5 => ?_)
      · replace H := ift h5 H
        refine awp_plain hN rfl ?_
        refine seq_run0 (stp_move (.dat _) rfl) ?_
        refine seq_run0 (stp_move (.dat _) rfl) ?_
        refine seq_run0 (stp_wrap _ rfl rfl (.inl ⟨rfl, rfl⟩)) ?_
        refine seq_run0 (stp_assign (.dat _) rfl) ?_
        exact ⟨wr ((Int.tmod x1 n2) + n2), H, ⟨rfl, trivial⟩, trivial⟩
      · replace H := iff_ h5 H
        refine awp_skip ?_
        exact ⟨(Int.tmod x1 n2), H, ⟨rfl, trivial⟩, trivial⟩
    · rintro x6 H
      replace H : gatemake_Below_J1 x6 = some r := H
      unfold gatemake_Below_J1 at H
      refine awp_seq ?_
      refine awp_plain hN rfl ?_
      refine seq_run0 (stp_move (.dat _) rfl) ?_
      refine seq_run0 (stp_assign (.dat _) rfl) ?_
      refine awp_ret ?_
      cases H
      exact ⟨trivial, .inl rfl, trivial⟩
theorem k_gatemake_Stream_Next (s1 : S_gatemake_Stream) (n2 : Int) (r : (Int × S_gatemake_Stream)) (H : m_gatemake_Stream_Next s1 n2 = some r) : Imp Try.prog 16 25 (C_gatemake_Stream s1) [vint n2] (resOf [vint r.1]) (C_gatemake_Stream r.2) := by
  refine imp_of (us := [vint r.1]) (cs' := (C_gatemake_Stream r.2)) (by kernel_rfl) Try.func16 rfl rfl rfl rfl fun X bl hN => ?_
  unfold m_gatemake_Stream_Next at H
  refine awp_seq ?_
  refine awp_plain hN rfl ?_
  refine seq_run0 (stp_assign (.dat _) rfl) ?_
  refine awp_seq ?_
  refine awp_plain hN rfl ?_
  refine seq_run0 (stp_move (.ptr _ _) rfl) ?_
  refine seq_run0 (stp_nilP rfl) ?_
  refine seq_run0 (stp_fldP tyF25_1 rfl) ?_
  refine seq_run1 (stp_load1 tyS3 rfl rfl) rfl ?_
  refine seq_run0 (stp_wrap _ rfl rfl (.inl ⟨rfl, rfl⟩)) ?_
  refine seq_run0 (stp_nilP rfl) ?_
  refine seq_run0 (stp_fldP tyF25_1 rfl) ?_
  refine seq_run2 (stp_store1 tyS3 rfl rfl rfl rfl) rfl ?_
  refine awp_seq ?_
  refine awp_seq ?_
  refine awp_plain hN rfl ?_
  refine seq_run0 (stp_move (.ptr _ _) rfl) ?_
  refine seq_run0 (stp_nilP rfl) ?_
  refine seq_run0 (stp_fldP tyF25_0 rfl) ?_
  refine seq_run1 (stp_load1 tyS22 rfl rfl) rfl ?_
  refine seq_run0 (t_len tyU22 rfl) ?_
  refine seq_run0 (stp_eql rfl rfl) ?_
  refine awp_cond _ rfl (fun h3 => ?_) (fun h3 => ?_)
  · replace H := ift h3 H
    refine awp_seq ?_
    refine awp_plain hN rfl ?_
    refine seq_run0 (stp_move (.ptr _ _) rfl) ?_
    refine seq_run0 (stp_nilP rfl) ?_
    refine seq_run0 (stp_fldP tyF25_1 rfl) ?_
    refine seq_run1 (stp_load1 tyS3 rfl rfl) rfl ?_
    refine seq_run0 (stp_wrap _ rfl rfl (.inr (.inr ⟨rfl, rfl⟩))) ?_
    refine seq_run0 (stp_move (.dat _) rfl) ?_
    obtain ⟨r4, h5, H⟩ := bnd H
    refine seq_run0 (stp_call (k_gatemake_Below (wr ((wr (s1.at_ + 1)) * 7919)) n2 r4 h5) ⟨.inl rfl, .inl rfl, trivial⟩) ?_
    refine seq_run0 (stp_assign (.dat _) rfl) ?_
    refine awp_ret ?_
    cases H
    exact ⟨trivial, ⟨.inl rfl, trivial⟩, rfl⟩
  · replace H := iff_ h3 H
    refine awp_skip ?_
    refine awp_seq ?_
    refine awp_draw mixed hN rfl rfl ?_
    refine seq_run0 (stp_move (.ptr _ _) rfl) ?_
    refine seq_run0 (stp_nilP rfl) ?_
    refine seq_run0 (stp_fldP tyF25_1 rfl) ?_
    refine seq_run1 (stp_load1 tyS3 rfl rfl) rfl ?_
    refine seq_run0 (stp_wrap _ rfl rfl (.inr (.inl ⟨rfl, rfl⟩))) ?_
    refine seq_run0 (stp_move (.ptr _ _) rfl) ?_
    refine seq_run0 (stp_nilP rfl) ?_
    refine seq_run0 (stp_fldP tyF25_0 rfl) ?_
    refine seq_run1 (stp_load1 tyS22 rfl rfl) rfl ?_
    refine seq_run0 (t_len tyU22 rfl) ?_
    obtain ⟨h6, H⟩ := gif H
    refine seq_run0 (stp_remT rfl rfl h6) ?_
    refine seq_run0 (stp_assign (.dat _) rfl) ?_
    refine ⟨rfl, ?_⟩
    refine awp_seq ?_
    refine awp_draw mixed hN rfl rfl ?_
    refine seq_run0 (stp_move (.ptr _ _) rfl) ?_
    refine seq_run0 (stp_nilP rfl) ?_
    refine seq_run0 (stp_fldP tyF25_1 rfl) ?_
    refine seq_run1 (stp_load1 tyS3 rfl rfl) rfl ?_
    refine seq_run0 (stp_wrap _ rfl rfl (.inr (.inl ⟨rfl, rfl⟩))) ?_
    refine seq_run0 (stp_move (.ptr _ _) rfl) ?_
    refine seq_run0 (stp_nilP rfl) ?_
    refine seq_run0 (stp_fldP tyF25_0 rfl) ?_
    refine seq_run1 (stp_load1 tyS22 rfl rfl) rfl ?_
    refine seq_run0 (t_len tyU22 rfl) ?_
    obtain ⟨h7, H⟩ := gif H
    refine seq_run0 (stp_quo rfl rfl h7.1 h7.2) ?_
    refine seq_run0 (stp_assign (.dat _) rfl) ?_
    refine ⟨rfl, ?_⟩
    refine awp_seq ?_
    refine awp_plain hN rfl ?_
    refine seq_run0 (stp_move (.ptr _ _) rfl) ?_
    refine seq_run0 (stp_nilP rfl) ?_
    refine seq_run0 (stp_fldP tyF25_0 rfl) ?_
    refine seq_run1 (stp_load1 tyS22 rfl rfl) rfl ?_
    refine seq_run0 (stp_move (.dat _) rfl) ?_
    obtain ⟨x8, h9, H⟩ := bnd H
    refine seq_run0 (t_idxI tyE22 (fun _ => rfl) rfl rfl h9) ?_
    refine seq_run0 (stp_loadE1 tyS3 rfl (map_at (at_some h9).2) rfl) ?_
    obtain ⟨r10, h11, H⟩ := bnd H
    refine seq_run0 (stp_call (k_gatemake_Below x8 1073741824 r10 h11) ⟨.inl rfl, .inl rfl, trivial⟩) ?_
    refine seq_run0 (stp_move (.dat _) rfl) ?_
    refine seq_run0 (stp_move (.dat _) rfl) ?_
    refine seq_run0 (stp_wrap _ rfl rfl (.inl ⟨rfl, rfl⟩)) ?_
    refine seq_run0 (stp_wrap _ rfl rfl (.inr (.inr ⟨rfl, rfl⟩))) ?_
    refine seq_run0 (stp_wrap _ rfl rfl (.inl ⟨rfl, rfl⟩)) ?_
    refine seq_run0 (stp_move (.dat _) rfl) ?_
    obtain ⟨r12, h13, H⟩ := bnd H
    refine seq_run0 (stp_call (k_gatemake_Below (wr (r10 + (wr (((wr ((wr (s1.at_ + 1)) - 1)) / (s1.L.length : Int)) * (wr (7919 + (Int.tmod (wr ((wr (s1.at_ + 1)) - 1)) (s1.L.length : Int)))))))) n2 r12 h13) ⟨.inl rfl, .inl rfl, trivial⟩) ?_
    refine seq_run0 (stp_assign (.dat _) rfl) ?_
    refine awp_ret ?_
    cases H
    exact ⟨trivial, ⟨.inl rfl, trivial⟩, rfl⟩
theorem k_gatemake_Stream_Flip (s1 : S_gatemake_Stream) (n2 : Int) (r : (Bool × S_gatemake_Stream)) (H : m_gatemake_Stream_Flip s1 n2 = some r) : Imp Try.prog 15 25 (C_gatemake_Stream s1) [vint n2] (resOf [vbool r.1]) (C_gatemake_Stream r.2) := by
  refine imp_of (us := [vbool r.1]) (cs' := (C_gatemake_Stream r.2)) (by kernel_rfl) Try.func15 rfl rfl rfl rfl fun X bl hN => ?_
  unfold m_gatemake_Stream_Flip at H
  refine awp_seq ?_
  refine awp_plain hN rfl ?_
  refine seq_run0 (stp_assign (.dat _) rfl) ?_
  refine awp_seq ?_
  refine awp_plain hN rfl ?_
  refine seq_run0 (stp_move (.ptr _ _) rfl) ?_
  refine seq_run0 (stp_move (.dat _) rfl) ?_
  obtain ⟨r3, h4, H⟩ := bnd H
  refine seq_run2 (stp_imp (k_gatemake_Stream_Next s1 n2 r3 h4) rfl ⟨.inl rfl, trivial⟩ rfl) rfl ?_
  refine seq_run0 (stp_eql rfl rfl) ?_
  refine seq_run0 (stp_assign (.dat _) rfl) ?_
  refine awp_ret ?_
  cases H
  exact ⟨trivial, ⟨.inl rfl, trivial⟩, rfl⟩
theorem k_gatemake_Stream_Pick (s1 : S_gatemake_Stream) (l2 : (List Int)) (r : (Int × S_gatemake_Stream)) (H : m_gatemake_Stream_Pick s1 l2 = some r) : Imp Try.prog 14 25 (C_gatemake_Stream s1) [vlst (List.map C_int l2)] (resOf [vint r.1]) (C_gatemake_Stream r.2) := by
  refine imp_of (us := [vint r.1]) (cs' := (C_gatemake_Stream r.2)) (by kernel_rfl) Try.func14 rfl rfl rfl rfl fun X bl hN => ?_
  unfold m_gatemake_Stream_Pick at H
  refine awp_seq ?_
  refine awp_plain hN rfl ?_
  refine seq_run0 (stp_assign (.dat _) rfl) ?_
  refine awp_seq ?_
  refine awp_plain hN rfl ?_
  refine seq_run0 (stp_move (.dat _) rfl) ?_
  refine seq_run0 (stp_move (.ptr _ _) rfl) ?_
  refine seq_run0 (stp_move (.dat _) rfl) ?_
  refine seq_run0 (t_len tyU22 rfl) ?_
  obtain ⟨r3, h4, H⟩ := bnd H
  refine seq_run2 (stp_imp (k_gatemake_Stream_Next s1 (l2.length : Int) r3 h4) rfl ⟨.inl rfl, trivial⟩ rfl) rfl ?_
  obtain ⟨x5, h6, H⟩ := bnd H
  refine seq_run0 (t_idxI tyE22 (fun _ => rfl) rfl rfl h6) ?_
  refine seq_run0 (stp_loadE1 tyS3 rfl (map_at (at_some h6).2) rfl) ?_
  refine seq_run0 (stp_assign (.dat _) rfl) ?_
  refine awp_ret ?_
  cases H
  exact ⟨trivial, ⟨.inl rfl, trivial⟩, rfl⟩
theorem k_gatemake_Stream_RightInstances (s1 : S_gatemake_Stream) (r : ((List S_api_Instance) × S_gatemake_Stream)) (H : m_gatemake_Stream_RightInstances s1 = some r) : Imp Try.prog 98 25 (C_gatemake_Stream s1) [] (resOf [vlst (List.map C_api_Instance r.1)]) (C_gatemake_Stream r.2) := by
  refine imp_of (us := [vlst (List.map C_api_Instance r.1)]) (cs' := (C_gatemake_Stream r.2)) (by kernel_rfl) Try.func98 rfl rfl rfl rfl fun X bl hN => ?_
  unfold m_gatemake_Stream_RightInstances at H
  refine awp_seq ?_
  refine awp_plain hN rfl ?_
  refine seq_run0 (stp_assign (.dat _) rfl) ?_
  refine awp_seq ?_
  refine awp_plain hN rfl ?_
  refine seq_run0 (stp_assign (.dat _) rfl) ?_
  refine awp_seq ?_
  refine awp_seq ?_
  refine awp_plain hN rfl ?_
  refine seq_run0 (stp_dat (u' := vlst (List.map C_string [[105, 97], [105, 98], [105, 99], [105, 100]])) (stp_lit [[_], [_], [_], [_]] tyL73 ⟨rfl, .inl ⟨_, rfl, rfl, rfl⟩, rfl, rfl, .inl ⟨_, rfl, rfl, rfl⟩, rfl, rfl, .inl ⟨_, rfl, rfl, rfl⟩, rfl, rfl, .inl ⟨_, rfl, rfl, rfl⟩, rfl, trivial⟩ rfl rfl) rfl) ?_
  refine seq_run0 (t_len tyU73 rfl) ?_
  refine seq_run0 (stp_move (.dat _) rfl) ?_
  refine awp_block ?_
  refine awp_nilrow 3 1 114 2 rfl rfl rfl ?_
  obtain ⟨h7, H⟩ := gif H
  refine awp_forL (fun (k5 : Nat) (s : (List Int) × Int × (List S_api_Instance)) => [(0, .ptr 0 0), (3, .row 1 s.2.2.length), (6, .dat (vlst (List.map C_string ([[105, 97], [105, 98], [105, 99], [105, 100]])))), (7, .dat (vint (([[105, 97], [105, 98], [105, 99], [105, 100]]).length : Int))), (8, .dat (vint (k5 : Int)))]) (fun (k5 : Nat) (s : (List Int) × Int × (List S_api_Instance)) => [(0, .box (some bl) 25 [.dat (vlst (List.map C_int s.1)), .dat (vint s.2.1)]), (1, .row 114 2 (List.map C_api_Instance s.2.2))]) (s1.L, s1.at_, []) H ⟨rfl, congrArg (Slot.row 1) (by simp), rfl, rfl, rfl, trivial⟩ ⟨rfl, rfl, trivial⟩ (fun _ _ => rfl) ?_ ?_
  · rintro ⟨c2, c3, l4⟩ H
    replace H : gatemake_Stream_RightInstances_E1 c2 c3 l4 = some r := H
    unfold gatemake_Stream_RightInstances_E1 at H
    refine awp_seq ?_
    refine awp_plain hN rfl ?_
    refine seq_run0 (stp_lss rfl rfl) ?_
    refine awp_seq ?_
    refine awp_cond _ rfl (fun h => (lt_t h).elim) (fun h => ?_)
    refine awp_exit ?_
    refine awp_seq ?_
    refine awp_plain hN rfl ?_
    refine seq_run0 (stp_move (.row _ _) rfl) ?_
    refine seq_run0 (stp_assign (.row _ _) rfl) ?_
    refine awp_ret ?_
    cases H
    exact ⟨trivial, ⟨t_slotv rfl rfl, trivial⟩, rfl⟩
  · rintro k5 x8 ⟨c2, c3, l4⟩ q6 h9 h10 H hq6
    replace H : gatemake_Stream_RightInstances_L1 k5 x8 c2 c3 l4 = some q6 := H
    unfold gatemake_Stream_RightInstances_L1 at H
    refine awp_seq ?_
    refine awp_plain hN rfl ?_
    refine seq_run0 (stp_lss rfl rfl) ?_
    refine awp_seq ?_
    refine awp_cond _ rfl (fun h => ?_) (fun h => (lt_f h9 h).elim)
    refine awp_skip ?_
    refine awp_joinE (ι := (List S_api_Instance) × (List Int) × Int) (fun i => [(0, .ptr 0 0), (3, .row 1 i.1.length), (6, .dat (vlst (List.map C_string ([[105, 97], [105, 98], [105, 99], [105, 100]])))), (7, .dat (vint (([[105, 97], [105, 98], [105, 99], [105, 100]]).length : Int))), (8, .dat (vint (k5 : Int)))]) (fun i => [(0, .box (some bl) 25 [.dat (vlst (List.map C_int i.2.1)), .dat (vint i.2.2)]), (1, .row 114 2 (List.map C_api_Instance i.1))]) (fun i => gatemake_Stream_RightInstances_J2 i.1 i.2.1 i.2.2 = some q6) (fun i => rfl) ?_ ?_
    · skip
      refine awp_block ?_
      refine awp_seq ?_
      refine awp_plain hN rfl ?_
      refine seq_run0 (t_idx tyE73 (fun _ => rfl) rfl rfl h10) ?_
      refine seq_run0 (stp_loadE1 tyS9 rfl (map_at h10) rfl) ?_
      refine seq_run0 (stp_assign (.dat _) rfl) ?_
      refine awp_joinE (ι := Bool × (List Int) × Int) (fun i => [(0, .ptr 0 0), (3, .row 1 l4.length), (5, .dat (vstr x8)), (6, .dat (vlst (List.map C_string ([[105, 97], [105, 98], [105, 99], [105, 100]])))), (7, .dat (vint (([[105, 97], [105, 98], [105, 99], [105, 100]]).length : Int))), (8, .dat (vint (k5 : Int))), (23, .dat (vbool i.1))]) (fun i => [(0, .box (some bl) 25 [.dat (vlst (List.map C_int i.2.1)), .dat (vint i.2.2)]), (1, .row 114 2 (List.map C_api_Instance l4))]) (fun i => gatemake_Stream_RightInstances_J3 l4 x8 i.1 i.2.1 i.2.2 = some q6) (fun i => rfl) ?_ ?_
      · skip
        refine awp_plain hN rfl ?_
        refine seq_run0 (stp_move (.row _ _) rfl) ?_
        refine seq_run1 (t_lenR tyU48 rfl rfl) rfl ?_
        refine seq_run0 (stp_eql rfl rfl) ?_
        refine seq_run0 (stp_move (.dat _) rfl) ?_
        refine seq_split (j := 3) rfl rfl (fun h11 => ?_) (fun h11 => ?_) rfl
        · have h12 := un1 h11
          replace H := ift h12 H
          refine seq_g0 rfl rfl h11 (stp_move (.dat _) rfl) ?_
          refine seq_g0 rfl rfl h11 (stp_seql rfl rfl) ?_
          refine seq_run0 (stp_pick_t rfl (bTT h12) rfl) ?_
          refine seq_run0 (stp_move (.dat _) rfl) ?_
          refine seq_split (j := 7) rfl rfl (fun h13 => ?_) (fun h13 => ?_) rfl
          · have h14 := un3 h13
            replace H := iff_ h14 H
            refine seq_g0 rfl rfl h13 (stp_move (.ptr _ _) rfl) ?_
            obtain ⟨r15, h16, H⟩ := bnd H
            refine seq_g2 rfl rfl h13 (stp_imp (k_gatemake_Stream_Flip (S_gatemake_Stream.mk c2 c3) 4 r15 h16) rfl ⟨.inl rfl, trivial⟩ rfl) rfl ?_
            refine seq_g0 rfl rfl h13 (stp_not rfl) ?_
            refine seq_run0 (stp_pick_f rfl (bFF h14) rfl) ?_
            exact ⟨(!r15.1, r15.2.L, r15.2.at_), H, ⟨rfl, rfl, rfl, rfl, rfl, rfl, rfl, trivial⟩, ⟨rfl, rfl, trivial⟩⟩
          · have h17 := un4 h13
            replace H := ift h17 H
            refine seq_skip rfl rfl h13 ?_
            refine seq_skip rfl rfl h13 ?_
            refine seq_skip rfl rfl h13 ?_
            refine seq_run0 (stp_pick_t rfl (bTT h17) rfl) ?_
            exact ⟨(true, c2, c3), H, ⟨rfl, rfl, rfl, rfl, rfl, rfl, rfl, trivial⟩, ⟨rfl, rfl, trivial⟩⟩
        · have h18 := un2 h11
          replace H := iff_ h18 H
          refine seq_skip rfl rfl h11 ?_
          refine seq_skip rfl rfl h11 ?_
          refine seq_run0 (stp_pick_f rfl (bFF h18) rfl) ?_
          refine seq_run0 (stp_move (.dat _) rfl) ?_
          refine seq_g0 rfl rfl rfl (stp_move (.ptr _ _) rfl) ?_
          obtain ⟨r19, h20, H⟩ := bnd H
          refine seq_g2 rfl rfl rfl (stp_imp (k_gatemake_Stream_Flip (S_gatemake_Stream.mk c2 c3) 4 r19 h20) rfl ⟨.inl rfl, trivial⟩ rfl) rfl ?_
          refine seq_g0 rfl rfl rfl (stp_not rfl) ?_
          refine seq_run0 (stp_pick_f rfl rfl rfl) ?_
          exact ⟨(!r19.1, r19.2.L, r19.2.at_), H, ⟨rfl, rfl, rfl, rfl, rfl, rfl, rfl, trivial⟩, ⟨rfl, rfl, trivial⟩⟩
      · rintro ⟨v21, c22, c23⟩ H
        replace H : gatemake_Stream_RightInstances_J3 l4 x8 v21 c22 c23 = some q6 := H
        unfold gatemake_Stream_RightInstances_J3 at H
        refine awp_cond _ rfl (fun h24 => ?_) (fun h24 => ?_)
        · replace H := ift h24 H
          refine awp_plain hN rfl ?_
          refine seq_run0 (stp_move (.row _ _) rfl) ?_
          refine seq_run0 (stp_move (.dat _) rfl) ?_
          refine seq_run0 (stp_move (.ptr _ _) rfl) ?_
          refine seq_run0 (stp_dat (u' := vlst (List.map C_int [1, 1, 2, 3, 5])) (stp_lit [[_], [_], [_], [_], [_]] tyL22 ⟨rfl, .inl ⟨_, rfl, rfl, rfl⟩, rfl, rfl, .inl ⟨_, rfl, rfl, rfl⟩, rfl, rfl, .inl ⟨_, rfl, rfl, rfl⟩, rfl, rfl, .inl ⟨_, rfl, rfl, rfl⟩, rfl, rfl, .inl ⟨_, rfl, rfl, rfl⟩, rfl, trivial⟩ rfl rfl) rfl) ?_
          obtain ⟨r25, h26, H⟩ := bnd H
          refine seq_run2 (stp_imp (k_gatemake_Stream_Pick (S_gatemake_Stream.mk c22 c23) [1, 1, 2, 3, 5] r25 h26) rfl ⟨.inl rfl, trivial⟩ rfl) rfl ?_
          refine seq_run0 (stp_dat (u' := vagg (C_api_Instance (S_api_Instance.mk x8 r25.1))) (stp_build [(0, [vstr x8]), (1, [vint r25.1])] tyZ114 tyP114 rfl ⟨rfl, .inl ⟨_, rfl, rfl, rfl⟩, rfl, rfl, .inl ⟨_, rfl, rfl, rfl⟩, rfl, trivial⟩) rfl) ?_
          refine seq_run0 (stp_dat (u' := vlst (List.map C_api_Instance [(S_api_Instance.mk x8 r25.1)])) (stp_lit [_] tyL48 ⟨rfl, .inr rfl, rfl, trivial⟩ rfl rfl) rfl) ?_
          obtain ⟨h27, H⟩ := gif H
          refine seq_run2 (t_app tyL48 (fun _ => rfl) rfl rfl rfl ⟨by simp, by simpa using h27⟩ rfl) rfl ?_
          refine seq_run0 (stp_assign (.row _ _) rfl) ?_
          exact ⟨((l4 ++ [(S_api_Instance.mk x8 r25.1)]), r25.2.L, r25.2.at_), H, ⟨rfl, rfl, rfl, rfl, rfl, trivial⟩, ⟨rfl, rfl, trivial⟩⟩
        · replace H := iff_ h24 H
          refine awp_skip ?_
          exact ⟨(l4, c22, c23), H, ⟨rfl, rfl, rfl, rfl, rfl, trivial⟩, ⟨rfl, rfl, trivial⟩⟩
    · rintro ⟨out28, c29, c30⟩ H
      replace H : gatemake_Stream_RightInstances_J2 out28 c29 c30 = some q6 := H
      unfold gatemake_Stream_RightInstances_J2 at H
      refine awp_plain hN rfl ?_
      refine seq_run0 (stp_add rfl rfl (by omega)) ?_
      refine seq_run0 (stp_move (.dat _) rfl) ?_
      exact ⟨_, backl H, ⟨rfl, rfl, rfl, rfl, rfl, trivial⟩, ⟨rfl, rfl, trivial⟩⟩
theorem k_gatemake_Stream_Some (s1 : S_gatemake_Stream) (l2 : (List Bs)) (r : (Bs × S_gatemake_Stream)) (H : m_gatemake_Stream_Some s1 l2 = some r) : Imp Try.prog 69 25 (C_gatemake_Stream s1) [vlst (List.map C_string l2)] (resOf [vstr r.1]) (C_gatemake_Stream r.2) := by
  refine imp_of (us := [vstr r.1]) (cs' := (C_gatemake_Stream r.2)) (by kernel_rfl) Try.func69 rfl rfl rfl rfl fun X bl hN => ?_
  unfold m_gatemake_Stream_Some at H
  refine awp_seq ?_
  refine awp_plain hN rfl ?_
  refine seq_run0 (stp_assign (.dat _) rfl) ?_
  refine awp_seq ?_
  refine awp_plain hN rfl ?_
  refine seq_run0 (stp_move (.dat _) rfl) ?_
  refine seq_run0 (stp_move (.ptr _ _) rfl) ?_
  refine seq_run0 (stp_move (.dat _) rfl) ?_
  refine seq_run0 (t_len tyU73 rfl) ?_
  obtain ⟨r3, h4, H⟩ := bnd H
  refine seq_run2 (stp_imp (k_gatemake_Stream_Next s1 (l2.length : Int) r3 h4) rfl ⟨.inl rfl, trivial⟩ rfl) rfl ?_
  obtain ⟨x5, h6, H⟩ := bnd H
  refine seq_run0 (t_idxI tyE73 (fun _ => rfl) rfl rfl h6) ?_
  refine seq_run0 (stp_loadE1 tyS9 rfl (map_at (at_some h6).2) rfl) ?_
  refine seq_run0 (stp_assign (.dat _) rfl) ?_
  refine awp_ret ?_
  cases H
  exact ⟨trivial, ⟨.inl rfl, trivial⟩, rfl⟩
theorem k_gatemake_Stream_Range (s1 : S_gatemake_Stream) (low2 : Int) (high3 : Int) (r : (Int × S_gatemake_Stream)) (H : m_gatemake_Stream_Range s1 low2 high3 = some r) : Imp Try.prog 13 25 (C_gatemake_Stream s1) [vint low2, vint high3] (resOf [vint r.1]) (C_gatemake_Stream r.2) := by
  refine imp_of (us := [vint r.1]) (cs' := (C_gatemake_Stream r.2)) (by kernel_rfl) Try.func13 rfl rfl rfl rfl fun X bl hN => ?_
  unfold m_gatemake_Stream_Range at H
  refine awp_seq ?_
  refine awp_plain hN rfl ?_
  refine seq_run0 (stp_assign (.dat _) rfl) ?_
  refine awp_seq ?_
  refine awp_seq ?_
  refine awp_plain hN rfl ?_
  refine seq_run0 (stp_move (.dat _) rfl) ?_
  refine seq_run0 (stp_move (.dat _) rfl) ?_
  refine seq_run0 (stp_lss rfl rfl) ?_
  refine awp_cond _ rfl (fun h4 => ?_) (fun h4 => ?_)
  · replace H := ift h4 H
    refine awp_seq ?_
    refine awp_plain hN rfl ?_
    refine seq_run0 (stp_move (.dat _) rfl) ?_
    refine seq_run0 (stp_assign (.dat _) rfl) ?_
    refine awp_ret ?_
    cases H
    exact ⟨trivial, ⟨.inl rfl, trivial⟩, rfl⟩
  · replace H := iff_ h4 H
    refine awp_skip ?_
    refine awp_seq ?_
    refine awp_plain hN rfl ?_
    refine seq_run0 (stp_move (.dat _) rfl) ?_
    refine seq_run0 (stp_move (.ptr _ _) rfl) ?_
    refine seq_run0 (stp_move (.dat _) rfl) ?_
    refine seq_run0 (stp_move (.dat _) rfl) ?_
    refine seq_run0 (stp_wrap _ rfl rfl (.inr (.inl ⟨rfl, rfl⟩))) ?_
    refine seq_run0 (stp_wrap _ rfl rfl (.inl ⟨rfl, rfl⟩)) ?_
    obtain ⟨r5, h6, H⟩ := bnd H
    refine seq_run2 (stp_imp (k_gatemake_Stream_Next s1 (wr ((wr (high3 - low2)) + 1)) r5 h6) rfl ⟨.inl rfl, trivial⟩ rfl) rfl ?_
    refine seq_run0 (stp_wrap _ rfl rfl (.inl ⟨rfl, rfl⟩)) ?_
    refine seq_run0 (stp_assign (.dat _) rfl) ?_
    refine awp_ret ?_
    cases H
    exact ⟨trivial, ⟨.inl rfl, trivial⟩, rfl⟩
theorem k_gatemake_Stream_Odd (s1 : S_gatemake_Stream) (low2 : Int) (high3 : Int) (r : (Int × S_gatemake_Stream)) (H : m_gatemake_Stream_Odd s1 low2 high3 = some r) : Imp Try.prog 55 25 (C_gatemake_Stream s1) [vint low2, vint high3] (resOf [vint r.1]) (C_gatemake_Stream r.2) := by
  refine imp_of (us := [vint r.1]) (cs' := (C_gatemake_Stream r.2)) (by kernel_rfl) Try.func55 rfl rfl rfl rfl fun X bl hN => ?_
  unfold m_gatemake_Stream_Odd at H
  refine awp_seq ?_
  refine awp_plain hN rfl ?_
  refine seq_run0 (stp_assign (.dat _) rfl) ?_
  refine awp_seq ?_
  refine awp_seq ?_
  refine awp_plain hN rfl ?_
  refine seq_run0 (stp_move (.ptr _ _) rfl) ?_
  obtain ⟨r4, h5, H⟩ := bnd H
  refine seq_run2 (stp_imp (k_gatemake_Stream_Flip s1 12 r4 h5) rfl ⟨.inl rfl, trivial⟩ rfl) rfl ?_
  refine awp_cond _ rfl (fun h6 => ?_) (fun h6 => ?_)
  · replace H := ift h6 H
    refine awp_seq ?_
    refine awp_plain hN rfl ?_
    refine seq_run0 (stp_move (.ptr _ _) rfl) ?_
    refine seq_run0 (stp_move (.dat _) rfl) ?_
    refine seq_run0 (stp_wrap _ rfl rfl (.inr (.inl ⟨rfl, rfl⟩))) ?_
    refine seq_run0 (stp_move (.dat _) rfl) ?_
    refine seq_run0 (stp_wrap _ rfl rfl (.inl ⟨rfl, rfl⟩)) ?_
    refine seq_run0 (stp_move (.dat _) rfl) ?_
    refine seq_run0 (stp_move (.dat _) rfl) ?_
    refine seq_run0 (stp_dat (u' := vlst (List.map C_int [wr (low2 - 1), wr (high3 + 1), low2, high3, (-1099511627776), 1099511627776])) (stp_lit [[_], [_], [_], [_], [_], [_]] tyL22 ⟨rfl, .inl ⟨_, rfl, rfl, rfl⟩, rfl, rfl, .inl ⟨_, rfl, rfl, rfl⟩, rfl, rfl, .inl ⟨_, rfl, rfl, rfl⟩, rfl, rfl, .inl ⟨_, rfl, rfl, rfl⟩, rfl, rfl, .inl ⟨_, rfl, rfl, rfl⟩, rfl, rfl, .inl ⟨_, rfl, rfl, rfl⟩, rfl, trivial⟩ rfl rfl) rfl) ?_
    obtain ⟨r7, h8, H⟩ := bnd H
    refine seq_run2 (stp_imp (k_gatemake_Stream_Pick r4.2 [wr (low2 - 1), wr (high3 + 1), low2, high3, (-1099511627776), 1099511627776] r7 h8) rfl ⟨.inl rfl, trivial⟩ rfl) rfl ?_
    refine seq_run0 (stp_assign (.dat _) rfl) ?_
    refine awp_ret ?_
    cases H
    exact ⟨trivial, ⟨.inl rfl, trivial⟩, rfl⟩
  · replace H := iff_ h6 H
    refine awp_skip ?_
    refine awp_seq ?_
    refine awp_plain hN rfl ?_
    refine seq_run0 (stp_move (.ptr _ _) rfl) ?_
    refine seq_run0 (stp_move (.dat _) rfl) ?_
    refine seq_run0 (stp_move (.dat _) rfl) ?_
    obtain ⟨r9, h10, H⟩ := bnd H
    refine seq_run2 (stp_imp (k_gatemake_Stream_Range r4.2 low2 high3 r9 h10) rfl ⟨.inl rfl, .inl rfl, trivial⟩ rfl) rfl ?_
    refine seq_run0 (stp_assign (.dat _) rfl) ?_
    refine awp_ret ?_
    cases H
    exact ⟨trivial, ⟨.inl rfl, trivial⟩, rfl⟩
theorem kr_gatemake_Stream_RightInstances (s1 : S_gatemake_Stream) (r : ((List S_api_Instance) × S_gatemake_Stream)) (H : m_gatemake_Stream_RightInstances s1 = some r) : FnG Try.prog 98 [.ptr 0 0] [(0, .box (some 0) 25 (List.map .dat (C_gatemake_Stream s1)))] (.row 1 r.1.length) [(0, .box (some 0) 25 (List.map .dat (C_gatemake_Stream r.2))), (1, .row 114 2 (List.map C_api_Instance r.1))] := by
  refine fnG_of (by kernel_rfl) Try.func98 rfl rfl rfl rfl fun X A hN => ?_
  unfold m_gatemake_Stream_RightInstances at H
  refine awp_seq ?_
  refine awp_plain hN rfl ?_
  refine seq_run0 (stp_assign (.dat _) rfl) ?_
  refine awp_seq ?_
  refine awp_plain hN rfl ?_
  refine seq_run0 (stp_assign (.dat _) rfl) ?_
  refine awp_seq ?_
  refine awp_seq ?_
  refine awp_plain hN rfl ?_
  refine seq_run0 (stp_dat (u' := vlst (List.map C_string [[105, 97], [105, 98], [105, 99], [105, 100]])) (stp_lit [[_], [_], [_], [_]] tyL73 ⟨rfl, .inl ⟨_, rfl, rfl, rfl⟩, rfl, rfl, .inl ⟨_, rfl, rfl, rfl⟩, rfl, rfl, .inl ⟨_, rfl, rfl, rfl⟩, rfl, rfl, .inl ⟨_, rfl, rfl, rfl⟩, rfl, trivial⟩ rfl rfl) rfl) ?_
  refine seq_run0 (t_len tyU73 rfl) ?_
  refine seq_run0 (stp_move (.dat _) rfl) ?_
  refine awp_block ?_
  refine awp_nilrow 3 1 114 2 rfl rfl rfl ?_
  obtain ⟨h7, H⟩ := gif H
  refine awp_forL (fun (k5 : Nat) (s : (List Int) × Int × (List S_api_Instance)) => [(0, .ptr 0 0), (3, .row 1 s.2.2.length), (6, .dat (vlst (List.map C_string ([[105, 97], [105, 98], [105, 99], [105, 100]])))), (7, .dat (vint (([[105, 97], [105, 98], [105, 99], [105, 100]]).length : Int))), (8, .dat (vint (k5 : Int)))]) (fun (k5 : Nat) (s : (List Int) × Int × (List S_api_Instance)) => [(0, .box (some (A.bl 0)) 25 [.dat (vlst (List.map C_int s.1)), .dat (vint s.2.1)]), (1, .row 114 2 (List.map C_api_Instance s.2.2))]) (s1.L, s1.at_, []) H ⟨rfl, congrArg (Slot.row 1) (by simp), rfl, rfl, rfl, trivial⟩ ⟨rfl, rfl, trivial⟩ (fun _ _ => rfl) ?_ ?_
  · rintro ⟨c2, c3, l4⟩ H
    replace H : gatemake_Stream_RightInstances_E1 c2 c3 l4 = some r := H
    unfold gatemake_Stream_RightInstances_E1 at H
    refine awp_seq ?_
    refine awp_plain hN rfl ?_
    refine seq_run0 (stp_lss rfl rfl) ?_
    refine awp_seq ?_
    refine awp_cond _ rfl (fun h => (lt_t h).elim) (fun h => ?_)
    refine awp_exit ?_
    refine awp_seq ?_
    refine awp_plain hN rfl ?_
    refine seq_run0 (stp_move (.row _ _) rfl) ?_
    refine seq_run0 (stp_assign (.row _ _) rfl) ?_
    refine awp_ret ?_
    cases H
    exact ⟨trivial, [(2, .row 1 _)], ⟨rfl, trivial⟩, ⟨rfl, rfl, trivial⟩, rfl, .inr ⟨2, rfl, rfl⟩⟩
  · rintro k5 x8 ⟨c2, c3, l4⟩ q6 h9 h10 H hq6
    replace H : gatemake_Stream_RightInstances_L1 k5 x8 c2 c3 l4 = some q6 := H
    unfold gatemake_Stream_RightInstances_L1 at H
    refine awp_seq ?_
    refine awp_plain hN rfl ?_
    refine seq_run0 (stp_lss rfl rfl) ?_
    refine awp_seq ?_
    refine awp_cond _ rfl (fun h => ?_) (fun h => (lt_f h9 h).elim)
    refine awp_skip ?_
    refine awp_joinE (ι := (List S_api_Instance) × (List Int) × Int) (fun i => [(0, .ptr 0 0), (3, .row 1 i.1.length), (6, .dat (vlst (List.map C_string ([[105, 97], [105, 98], [105, 99], [105, 100]])))), (7, .dat (vint (([[105, 97], [105, 98], [105, 99], [105, 100]]).length : Int))), (8, .dat (vint (k5 : Int)))]) (fun i => [(0, .box (some (A.bl 0)) 25 [.dat (vlst (List.map C_int i.2.1)), .dat (vint i.2.2)]), (1, .row 114 2 (List.map C_api_Instance i.1))]) (fun i => gatemake_Stream_RightInstances_J2 i.1 i.2.1 i.2.2 = some q6) (fun i => rfl) ?_ ?_
    · skip
      refine awp_block ?_
      refine awp_seq ?_
      refine awp_plain hN rfl ?_
      refine seq_run0 (t_idx tyE73 (fun _ => rfl) rfl rfl h10) ?_
      refine seq_run0 (stp_loadE1 tyS9 rfl (map_at h10) rfl) ?_
      refine seq_run0 (stp_assign (.dat _) rfl) ?_
      refine awp_joinE (ι := Bool × (List Int) × Int) (fun i => [(0, .ptr 0 0), (3, .row 1 l4.length), (5, .dat (vstr x8)), (6, .dat (vlst (List.map C_string ([[105, 97], [105, 98], [105, 99], [105, 100]])))), (7, .dat (vint (([[105, 97], [105, 98], [105, 99], [105, 100]]).length : Int))), (8, .dat (vint (k5 : Int))), (23, .dat (vbool i.1))]) (fun i => [(0, .box (some (A.bl 0)) 25 [.dat (vlst (List.map C_int i.2.1)), .dat (vint i.2.2)]), (1, .row 114 2 (List.map C_api_Instance l4))]) (fun i => gatemake_Stream_RightInstances_J3 l4 x8 i.1 i.2.1 i.2.2 = some q6) (fun i => rfl) ?_ ?_
      · skip
        refine awp_plain hN rfl ?_
        refine seq_run0 (stp_move (.row _ _) rfl) ?_
        refine seq_run1 (t_lenR tyU48 rfl rfl) rfl ?_
        refine seq_run0 (stp_eql rfl rfl) ?_
        refine seq_run0 (stp_move (.dat _) rfl) ?_
        refine seq_split (j := 3) rfl rfl (fun h11 => ?_) (fun h11 => ?_) rfl
        · have h12 := un1 h11
          replace H := ift h12 H
          refine seq_g0 rfl rfl h11 (stp_move (.dat _) rfl) ?_
          refine seq_g0 rfl rfl h11 (stp_seql rfl rfl) ?_
          refine seq_run0 (stp_pick_t rfl (bTT h12) rfl) ?_
          refine seq_run0 (stp_move (.dat _) rfl) ?_
          refine seq_split (j := 7) rfl rfl (fun h13 => ?_) (fun h13 => ?_) rfl
          · have h14 := un3 h13
            replace H := iff_ h14 H
            refine seq_g0 rfl rfl h13 (stp_move (.ptr _ _) rfl) ?_
            obtain ⟨r15, h16, H⟩ := bnd H
            refine seq_g2 rfl rfl h13 (stp_imp (k_gatemake_Stream_Flip (S_gatemake_Stream.mk c2 c3) 4 r15 h16) rfl ⟨.inl rfl, trivial⟩ rfl) rfl ?_
            refine seq_g0 rfl rfl h13 (stp_not rfl) ?_
            refine seq_run0 (stp_pick_f rfl (bFF h14) rfl) ?_
            exact ⟨(!r15.1, r15.2.L, r15.2.at_), H, ⟨rfl, rfl, rfl, rfl, rfl, rfl, rfl, trivial⟩, ⟨rfl, rfl, trivial⟩⟩
          · have h17 := un4 h13
            replace H := ift h17 H
            refine seq_skip rfl rfl h13 ?_
            refine seq_skip rfl rfl h13 ?_
            refine seq_skip rfl rfl h13 ?_
            refine seq_run0 (stp_pick_t rfl (bTT h17) rfl) ?_
            exact ⟨(true, c2, c3), H, ⟨rfl, rfl, rfl, rfl, rfl, rfl, rfl, trivial⟩, ⟨rfl, rfl, trivial⟩⟩
        · have h18 := un2 h11
          replace H := iff_ h18 H
          refine seq_skip rfl rfl h11 ?_
          refine seq_skip rfl rfl h11 ?_
          refine seq_run0 (stp_pick_f rfl (bFF h18) rfl) ?_
          refine seq_run0 (stp_move (.dat _) rfl) ?_
          refine seq_g0 rfl rfl rfl (stp_move (.ptr _ _) rfl) ?_
          obtain ⟨r19, h20, H⟩ := bnd H
          refine seq_g2 rfl rfl rfl (stp_imp (k_gatemake_Stream_Flip (S_gatemake_Stream.mk c2 c3) 4 r19 h20) rfl ⟨.inl rfl, trivial⟩ rfl) rfl ?_
          refine seq_g0 rfl rfl rfl (stp_not rfl) ?_
          refine seq_run0 (stp_pick_f rfl rfl rfl) ?_
          exact ⟨(!r19.1, r19.2.L, r19.2.at_), H, ⟨rfl, rfl, rfl, rfl, rfl, rfl, rfl, trivial⟩, ⟨rfl, rfl, trivial⟩⟩
      · rintro ⟨v21, c22, c23⟩ H
        replace H : gatemake_Stream_RightInstances_J3 l4 x8 v21 c22 c23 = some q6 := H
        unfold gatemake_Stream_RightInstances_J3 at H
        refine awp_cond _ rfl (fun h24 => ?_) (fun h24 => ?_)
        · replace H := ift h24 H
          refine awp_plain hN rfl ?_
          refine seq_run0 (stp_move (.row _ _) rfl) ?_
          refine seq_run0 (stp_move (.dat _) rfl) ?_
          refine seq_run0 (stp_move (.ptr _ _) rfl) ?_
          refine seq_run0 (stp_dat (u' := vlst (List.map C_int [1, 1, 2, 3, 5])) (stp_lit [[_], [_], [_], [_], [_]] tyL22 ⟨rfl, .inl ⟨_, rfl, rfl, rfl⟩, rfl, rfl, .inl ⟨_, rfl, rfl, rfl⟩, rfl, rfl, .inl ⟨_, rfl, rfl, rfl⟩, rfl, rfl, .inl ⟨_, rfl, rfl, rfl⟩, rfl, rfl, .inl ⟨_, rfl, rfl, rfl⟩, rfl, trivial⟩ rfl rfl) rfl) ?_
          obtain ⟨r25, h26, H⟩ := bnd H
          refine seq_run2 (stp_imp (k_gatemake_Stream_Pick (S_gatemake_Stream.mk c22 c23) [1, 1, 2, 3, 5] r25 h26) rfl ⟨.inl rfl, trivial⟩ rfl) rfl ?_
          refine seq_run0 (stp_dat (u' := vagg (C_api_Instance (S_api_Instance.mk x8 r25.1))) (stp_build [(0, [vstr x8]), (1, [vint r25.1])] tyZ114 tyP114 rfl ⟨rfl, .inl ⟨_, rfl, rfl, rfl⟩, rfl, rfl, .inl ⟨_, rfl, rfl, rfl⟩, rfl, trivial⟩) rfl) ?_
          refine seq_run0 (stp_dat (u' := vlst (List.map C_api_Instance [(S_api_Instance.mk x8 r25.1)])) (stp_lit [_] tyL48 ⟨rfl, .inr rfl, rfl, trivial⟩ rfl rfl) rfl) ?_
          obtain ⟨h27, H⟩ := gif H
          refine seq_run2 (t_app tyL48 (fun _ => rfl) rfl rfl rfl ⟨by simp, by simpa using h27⟩ rfl) rfl ?_
          refine seq_run0 (stp_assign (.row _ _) rfl) ?_
          exact ⟨((l4 ++ [(S_api_Instance.mk x8 r25.1)]), r25.2.L, r25.2.at_), H, ⟨rfl, rfl, rfl, rfl, rfl, trivial⟩, ⟨rfl, rfl, trivial⟩⟩
        · replace H := iff_ h24 H
          refine awp_skip ?_
          exact ⟨(l4, c22, c23), H, ⟨rfl, rfl, rfl, rfl, rfl, trivial⟩, ⟨rfl, rfl, trivial⟩⟩
    · rintro ⟨out28, c29, c30⟩ H
      replace H : gatemake_Stream_RightInstances_J2 out28 c29 c30 = some q6 := H
      unfold gatemake_Stream_RightInstances_J2 at H
      refine awp_plain hN rfl ?_
      refine seq_run0 (stp_add rfl rfl (by omega)) ?_
      refine seq_run0 (stp_move (.dat _) rfl) ?_
      exact ⟨_, backl H, ⟨rfl, rfl, rfl, rfl, rfl, trivial⟩, ⟨rfl, rfl, trivial⟩⟩
theorem k_gatemake_Stream_Instances (s1 : S_gatemake_Stream) (r : ((List S_api_Instance) × S_gatemake_Stream)) (H : m_gatemake_Stream_Instances s1 = some r) : Imp Try.prog 33 25 (C_gatemake_Stream s1) [] (resOf [vlst (List.map C_api_Instance r.1)]) (C_gatemake_Stream r.2) := by
  refine imp_of (us := [vlst (List.map C_api_Instance r.1)]) (cs' := (C_gatemake_Stream r.2)) (by kernel_rfl) Try.func33 rfl rfl rfl rfl fun X bl hN => ?_
  unfold m_gatemake_Stream_Instances at H
  refine awp_seq ?_
  refine awp_plain hN rfl ?_
  refine seq_run0 (stp_assign (.dat _) rfl) ?_
  refine awp_seq ?_
  refine awp_plain hN rfl ?_
  refine seq_run0 (stp_move (.ptr _ _) rfl) ?_
  obtain ⟨r2, h3, H⟩ := bnd H
  refine seq_callG (rn [(0, 0), (1, 1)]) [(0, _, _, some _)] [(1, _)] (kr_gatemake_Stream_RightInstances s1 r2 h3) ⟨rfl, rfl, trivial⟩ ⟨.inl (.inl rfl), trivial⟩ ⟨⟨⟨rfl, rfl⟩, trivial⟩, trivial⟩ rfl ?_
  refine seq_run0 (stp_assign (.row _ _) rfl) ?_
  refine awp_joinE (ι := (List S_api_Instance) × (List Int) × Int) (fun i => [(0, .ptr 0 0), (3, .row 1 i.1.length)]) (fun i => [(0, .box (some bl) 25 [.dat (vlst (List.map C_int i.2.1)), .dat (vint i.2.2)]), (1, .row 114 2 (List.map C_api_Instance i.1))]) (fun i => gatemake_Stream_Instances_J1 i.1 i.2.1 i.2.2 = some r) (fun i => rfl) ?_ ?_
  · skip
    refine awp_seq ?_
    refine awp_plain hN rfl ?_
    refine seq_run0 (stp_move (.ptr _ _) rfl) ?_
    obtain ⟨r4, h5, H⟩ := bnd H
    refine seq_run2 (stp_imp (k_gatemake_Stream_Flip r2.2 15 r4 h5) rfl ⟨.inl rfl, trivial⟩ rfl) rfl ?_
    refine awp_cond _ rfl (fun h6 => ?_) (fun h6 => ?_)
    · replace H := ift h6 H
      refine awp_seq ?_
      refine awp_plain hN rfl ?_
      refine seq_run0 (stp_move (.row _ _) rfl) ?_
      refine seq_run0 (stp_move (.ptr _ _) rfl) ?_
      refine seq_run0 (stp_move (.row _ _) rfl) ?_
      refine seq_run1 (t_lenR tyU48 rfl rfl) rfl ?_
      obtain ⟨r7, h8, H⟩ := bnd H
      refine seq_run2 (stp_imp (k_gatemake_Stream_Next r4.2 (r2.1.length : Int) r7 h8) rfl ⟨.inl rfl, trivial⟩ rfl) rfl ?_
      obtain ⟨x9, h10, H⟩ := bnd H
      refine seq_run1 (t_idxRI tyE48 rfl rfl rfl h10) rfl ?_
      refine seq_run0 (stp_assign (.rptr _ _ _ _ _) rfl) ?_
      refine awp_plain hN rfl ?_
      refine seq_run0 (stp_move (.rptr _ _ _ _ _) rfl) ?_
      refine seq_run0 (stp_move (.rptr _ _ _ _ _) rfl) ?_
      refine seq_run0 (stp_move (.ptr _ _) rfl) ?_
      refine seq_run0 (stp_move (.rptr _ _ _ _ _) rfl) ?_
      refine seq_run0 (stp_nilR rfl) ?_
      refine seq_run0 (stp_fldR tyF114_0 rfl) ?_
      refine seq_run1 (t_loadR1 tyS9 rfl rfl (at_some h10).2 rfl) rfl ?_
      refine seq_run0 (stp_dat (u' := vlst (List.map C_string [x9.Key, [], [65], [105, 97]])) (stp_lit [[_], [_], [_], [_]] tyL73 ⟨rfl, .inl ⟨_, rfl, rfl, rfl⟩, rfl, rfl, .inl ⟨_, rfl, rfl, rfl⟩, rfl, rfl, .inl ⟨_, rfl, rfl, rfl⟩, rfl, rfl, .inl ⟨_, rfl, rfl, rfl⟩, rfl, trivial⟩ rfl rfl) rfl) ?_
      obtain ⟨r11, h12, H⟩ := bnd H
      refine seq_run2 (stp_imp (k_gatemake_Stream_Some r7.2 ([x9.Key, [], [65], [105, 97]]) r11 h12) rfl ⟨.inl rfl, trivial⟩ rfl) rfl ?_
      refine seq_run0 (stp_move (.ptr _ _) rfl) ?_
      obtain ⟨r13, h14, H⟩ := bnd H
      refine seq_run2 (stp_imp (k_gatemake_Stream_Odd r11.2 1 100 r13 h14) rfl ⟨.inl rfl, .inl rfl, trivial⟩ rfl) rfl ?_
      refine seq_run0 (stp_nilR rfl) ?_
      refine seq_run0 (stp_fldR tyF114_0 rfl) ?_
      refine seq_run2 (t_storeR (S_api_Instance.mk r11.1 x9.Weight) tyS9 rfl rfl rfl rfl (at_some h10).2 rfl rfl) rfl ?_
      refine seq_run0 (stp_nilR rfl) ?_
      refine seq_run0 (stp_fldR tyF114_1 rfl) ?_
      refine seq_run2 (t_storeR (S_api_Instance.mk r11.1 r13.1) tyS3 rfl rfl rfl (by simp) (set_at (at_some h10).2) rfl rfl) rfl ?_
      exact ⟨(((r2.1.set r7.1.toNat (S_api_Instance.mk r11.1 x9.Weight)).set r7.1.toNat (S_api_Instance.mk r11.1 r13.1)), r13.2.L, r13.2.at_), H, ⟨rfl, congrArg (Slot.row 1) (by simp), trivial⟩, ⟨rfl, rfl, trivial⟩⟩
    · replace H := iff_ h6 H
      refine awp_skip ?_
      exact ⟨(r2.1, r4.2.L, r4.2.at_), H, ⟨rfl, rfl, trivial⟩, ⟨rfl, rfl, trivial⟩⟩
  · rintro ⟨out15, c16, c17⟩ H
    replace H : gatemake_Stream_Instances_J1 out15 c16 c17 = some r := H
    unfold gatemake_Stream_Instances_J1 at H
    refine awp_seq ?_
    refine awp_seq ?_
    refine awp_plain hN rfl ?_
    refine seq_run0 (stp_move (.ptr _ _) rfl) ?_
    obtain ⟨r18, h19, H⟩ := bnd H
    refine seq_run2 (stp_imp (k_gatemake_Stream_Flip (S_gatemake_Stream.mk c16 c17) 25 r18 h19) rfl ⟨.inl rfl, trivial⟩ rfl) rfl ?_
    refine awp_cond _ rfl (fun h20 => ?_) (fun h20 => ?_)
    · replace H := ift h20 H
      refine awp_seq ?_
      refine awp_plain hN rfl ?_
      refine seq_run0 (stp_assign (.dat _) rfl) ?_
      refine awp_ret ?_
      cases H
      exact ⟨trivial, ⟨.inr ⟨rfl, rfl⟩, trivial⟩, rfl⟩
    · replace H := iff_ h20 H
      refine awp_skip ?_
      refine awp_seq ?_
      refine awp_plain hN rfl ?_
      refine seq_run0 (stp_move (.row _ _) rfl) ?_
      refine seq_run0 (stp_assign (.row _ _) rfl) ?_
      refine awp_ret ?_
      cases H
      exact ⟨trivial, ⟨t_slotv rfl rfl, trivial⟩, rfl⟩
theorem k_gatemake_Stream_Health (s1 : S_gatemake_Stream) (r : (S_api_Health × S_gatemake_Stream)) (H : m_gatemake_Stream_Health s1 = some r) : Imp Try.prog 34 25 (C_gatemake_Stream s1) [] (resOf [vagg (C_api_Health r.1)]) (C_gatemake_Stream r.2) := by
  refine imp_of (us := [vagg (C_api_Health r.1)]) (cs' := (C_gatemake_Stream r.2)) (by kernel_rfl) Try.func34 rfl rfl rfl rfl fun X bl hN => ?_
  unfold m_gatemake_Stream_Health at H
  refine awp_seq ?_
  refine awp_plain hN rfl ?_
  refine seq_run2 (stp_alloc 1 tyZ66 rfl) rfl ?_
  refine awp_seq ?_
  refine awp_plain hN rfl ?_
  refine seq_run0 (stp_move (.ptr _ _) rfl) ?_
  refine seq_run0 (stp_dat (u' := vlst (List.map C_int [1, 2, 3])) (stp_lit [[_], [_], [_]] tyL22 ⟨rfl, .inl ⟨_, rfl, rfl, rfl⟩, rfl, rfl, .inl ⟨_, rfl, rfl, rfl⟩, rfl, rfl, .inl ⟨_, rfl, rfl, rfl⟩, rfl, trivial⟩ rfl rfl) rfl) ?_
  obtain ⟨r2, h3, H⟩ := bnd H
  refine seq_run2 (stp_imp (k_gatemake_Stream_Pick s1 [1, 2, 3] r2 h3) rfl ⟨.inl rfl, trivial⟩ rfl) rfl ?_
  refine seq_run0 (stp_move (.ptr _ _) rfl) ?_
  refine seq_run0 (stp_dat (u' := vlst (List.map C_int [1, 2, 3])) (stp_lit [[_], [_], [_]] tyL22 ⟨rfl, .inl ⟨_, rfl, rfl, rfl⟩, rfl, rfl, .inl ⟨_, rfl, rfl, rfl⟩, rfl, rfl, .inl ⟨_, rfl, rfl, rfl⟩, rfl, trivial⟩ rfl rfl) rfl) ?_
  obtain ⟨r4, h5, H⟩ := bnd H
  refine seq_run2 (stp_imp (k_gatemake_Stream_Pick r2.2 [1, 2, 3] r4 h5) rfl ⟨.inl rfl, trivial⟩ rfl) rfl ?_
  refine seq_run0 (stp_dat (u' := vagg (C_api_Health (S_api_Health.mk r2.1 r4.1))) (stp_build [(0, [vint r2.1]), (1, [vint r4.1])] tyZ66 tyP66 rfl ⟨rfl, .inl ⟨_, rfl, rfl, rfl⟩, rfl, rfl, .inl ⟨_, rfl, rfl, rfl⟩, rfl, trivial⟩) rfl) ?_
  refine seq_run2 (stp_alloc 2 tyZ66 rfl) rfl ?_
  refine seq_run2 (stp_storeW tyS66 rfl rfl rfl rfl) rfl ?_
  refine awp_joinE (ι := (List Int) × Int × Int × Int) (fun i => [(2, .ptr 1 0), (3, .ptr 2 0)]) (fun i => [(0, .box (some bl) 25 [.dat (vlst (List.map C_int i.1)), .dat (vint i.2.1)]), (1, .box none 66 [.dat (vint 0), .dat (vint 0)]), (2, .box none 66 [.dat (vint i.2.2.1), .dat (vint i.2.2.2)])]) (fun i => gatemake_Stream_Health_J1 i.1 i.2.1 i.2.2.1 i.2.2.2 = some r) (fun i => rfl) ?_ ?_
  · skip
    refine awp_seq ?_
    refine awp_plain hN rfl ?_
    refine seq_run0 (stp_move (.ptr _ _) rfl) ?_
    obtain ⟨r6, h7, H⟩ := bnd H
    refine seq_run2 (stp_imp (k_gatemake_Stream_Flip r4.2 20 r6 h7) rfl ⟨.inl rfl, trivial⟩ rfl) rfl ?_
    refine awp_cond _ rfl (fun h8 => ?_) (fun h8 => ?_)
    · replace H := ift h8 H
      refine awp_plain hN rfl ?_
      refine seq_run0 (stp_move (.ptr _ _) rfl) ?_
      obtain ⟨r9, h10, H⟩ := bnd H
      refine seq_run2 (stp_imp (k_gatemake_Stream_Odd r6.2 1 100 r9 h10) rfl ⟨.inl rfl, .inl rfl, trivial⟩ rfl) rfl ?_
      refine seq_run0 (stp_move (.ptr _ _) rfl) ?_
      obtain ⟨r11, h12, H⟩ := bnd H
      refine seq_run2 (stp_imp (k_gatemake_Stream_Odd r9.2 1 100 r11 h12) rfl ⟨.inl rfl, .inl rfl, trivial⟩ rfl) rfl ?_
      refine seq_run0 (stp_fldP tyF66_0 rfl) ?_
      refine seq_run2 (stp_store1 tyS3 rfl rfl rfl rfl) rfl ?_
      refine seq_run0 (stp_fldP tyF66_1 rfl) ?_
      refine seq_run2 (stp_store1 tyS3 rfl rfl rfl rfl) rfl ?_
      exact ⟨(r11.2.L, r11.2.at_, r9.1, r11.1), H, ⟨rfl, rfl, trivial⟩, ⟨rfl, rfl, rfl, trivial⟩⟩
    · replace H := iff_ h8 H
      refine awp_skip ?_
      exact ⟨(r6.2.L, r6.2.at_, r2.1, r4.1), H, ⟨rfl, rfl, trivial⟩, ⟨rfl, rfl, rfl, trivial⟩⟩
  · rintro ⟨c13, c14, c15, c16⟩ H
    replace H : gatemake_Stream_Health_J1 c13 c14 c15 c16 = some r := H
    unfold gatemake_Stream_Health_J1 at H
    refine awp_seq ?_
    refine awp_plain hN rfl ?_
    refine seq_run1 (stp_loadA tyS66 rfl rfl rfl) rfl ?_
    refine seq_run2 (stp_storeW tyS66 rfl rfl rfl rfl) rfl ?_
    refine awp_ret ?_
    cases H
    exact ⟨trivial, ⟨⟨_, _, _, C_api_Health (S_api_Health.mk c15 c16), rfl, rfl, rfl, rfl, tyS66⟩, trivial⟩, rfl⟩
theorem k_gatemake_Stream_InstanceKey (s1 : S_gatemake_Stream) (r : (Bs × S_gatemake_Stream)) (H : m_gatemake_Stream_InstanceKey s1 = some r) : Imp Try.prog 99 25 (C_gatemake_Stream s1) [] (resOf [vstr r.1]) (C_gatemake_Stream r.2) := by
  refine imp_of (us := [vstr r.1]) (cs' := (C_gatemake_Stream r.2)) (by kernel_rfl) Try.func99 rfl rfl rfl rfl fun X bl hN => ?_
  unfold m_gatemake_Stream_InstanceKey at H
  refine awp_seq ?_
  refine awp_plain hN rfl ?_
  refine seq_run0 (stp_assign (.dat _) rfl) ?_
  refine awp_seq ?_
  refine awp_seq ?_
  refine awp_plain hN rfl ?_
  refine seq_run0 (stp_move (.ptr _ _) rfl) ?_
  obtain ⟨r2, h3, H⟩ := bnd H
  refine seq_run2 (stp_imp (k_gatemake_Stream_Flip s1 40 r2 h3) rfl ⟨.inl rfl, trivial⟩ rfl) rfl ?_
  refine awp_cond _ rfl (fun h4 => ?_) (fun h4 => ?_)
  · replace H := ift h4 H
    refine awp_seq ?_
    refine awp_plain hN rfl ?_
    refine seq_run0 (stp_move (.ptr _ _) rfl) ?_
    refine seq_run0 (stp_dat (u' := vlst (List.map C_string [[], [110, 111, 110, 101]])) (stp_lit [[_], [_]] tyL73 ⟨rfl, .inl ⟨_, rfl, rfl, rfl⟩, rfl, rfl, .inl ⟨_, rfl, rfl, rfl⟩, rfl, trivial⟩ rfl rfl) rfl) ?_
    obtain ⟨r5, h6, H⟩ := bnd H
    refine seq_run2 (stp_imp (k_gatemake_Stream_Some r2.2 ([[], [110, 111, 110, 101]]) r5 h6) rfl ⟨.inl rfl, trivial⟩ rfl) rfl ?_
    refine seq_run0 (stp_assign (.dat _) rfl) ?_
    refine awp_ret ?_
    cases H
    exact ⟨trivial, ⟨.inl rfl, trivial⟩, rfl⟩
  · replace H := iff_ h4 H
    refine awp_skip ?_
    refine awp_seq ?_
    refine awp_plain hN rfl ?_
    refine seq_run0 (stp_move (.ptr _ _) rfl) ?_
    refine seq_run0 (stp_dat (u' := vlst (List.map C_string [[105, 97], [105, 98], [105, 99], [105, 100]])) (stp_lit [[_], [_], [_], [_]] tyL73 ⟨rfl, .inl ⟨_, rfl, rfl, rfl⟩, rfl, rfl, .inl ⟨_, rfl, rfl, rfl⟩, rfl, rfl, .inl ⟨_, rfl, rfl, rfl⟩, rfl, rfl, .inl ⟨_, rfl, rfl, rfl⟩, rfl, trivial⟩ rfl rfl) rfl) ?_
    obtain ⟨r7, h8, H⟩ := bnd H
    refine seq_run2 (stp_imp (k_gatemake_Stream_Some r2.2 ([[105, 97], [105, 98], [105, 99], [105, 100]]) r7 h8) rfl ⟨.inl rfl, trivial⟩ rfl) rfl ?_
    refine seq_run0 (stp_assign (.dat _) rfl) ?_
    refine awp_ret ?_
    cases H
    exact ⟨trivial, ⟨.inl rfl, trivial⟩, rfl⟩
theorem k_gatemake_Stream_Probes (s1 : S_gatemake_Stream) (l2 : (List S_api_Instance)) (r : ((List S_api_Probe) × S_gatemake_Stream)) (H : m_gatemake_Stream_Probes s1 l2 = some r) : Imp Try.prog 35 25 (C_gatemake_Stream s1) [vlst (List.map C_api_Instance l2)] (resOf [vlst (List.map C_api_Probe r.1)]) (C_gatemake_Stream r.2) := by
  refine imp_of (us := [vlst (List.map C_api_Probe r.1)]) (cs' := (C_gatemake_Stream r.2)) (by kernel_rfl) Try.func35 rfl rfl rfl rfl fun X bl hN => ?_
  unfold m_gatemake_Stream_Probes at H
  refine awp_seq ?_
  refine awp_plain hN rfl ?_
  refine seq_run0 (stp_assign (.dat _) rfl) ?_
  refine awp_seq ?_
  refine awp_plain hN rfl ?_
  refine seq_run0 (stp_assign (.dat _) rfl) ?_
  refine awp_seq ?_
  refine awp_plain hN rfl ?_
  refine seq_run0 (stp_assign (.dat _) rfl) ?_
  refine awp_seq ?_
  refine awp_seq ?_
  refine awp_plain hN rfl ?_
  refine seq_run0 (stp_move (.ptr _ _) rfl) ?_
  obtain ⟨r3, h4, H⟩ := bnd H
  refine seq_run2 (stp_imp (k_gatemake_Stream_Range s1 0 16 r3 h4) rfl ⟨.inl rfl, .inl rfl, trivial⟩ rfl) rfl ?_
  refine seq_run0 (stp_move (.dat _) rfl) ?_
  refine awp_block ?_
  refine awp_nilrow 5 1 136 3 rfl rfl rfl ?_
  obtain ⟨h11, H⟩ := gif H
  refine awp_rng (fun (k9 : Nat) (s : Int × (List Int) × Int × (List S_api_Probe)) => [(0, .ptr 0 0), (1, .dat (vlst (List.map C_api_Instance l2))), (5, .row 1 s.2.2.2.length), (6, .dat (vint s.1)), (9, .dat (vint r3.1)), (10, .dat (vint (k9 : Int)))]) (fun (k9 : Nat) (s : Int × (List Int) × Int × (List S_api_Probe)) => [(0, .box (some bl) 25 [.dat (vlst (List.map C_int s.2.1)), .dat (vint s.2.2.1)]), (1, .row 136 3 (List.map C_api_Probe s.2.2.2))]) (0, r3.2.L, r3.2.at_, []) H ⟨rfl, rfl, congrArg (Slot.row 1) (by simp), rfl, rfl, rfl, trivial⟩ ⟨rfl, rfl, trivial⟩ (fun _ _ => rfl) ?_ ?_
  · rintro ⟨v5, c6, c7, l8⟩ H
    replace H : gatemake_Stream_Probes_E1 v5 c6 c7 l8 = some r := H
    unfold gatemake_Stream_Probes_E1 at H
    refine awp_seq ?_
    refine awp_plain hN rfl ?_
    refine seq_run0 (stp_lss rfl rfl) ?_
    refine awp_seq ?_
    refine awp_cond _ rfl (fun h => (lt_tI h).elim) (fun h => ?_)
    refine awp_exit ?_
    refine awp_seq ?_
    refine awp_plain hN rfl ?_
    refine seq_run0 (stp_move (.row _ _) rfl) ?_
    refine seq_run0 (stp_assign (.row _ _) rfl) ?_
    refine awp_ret ?_
    cases H
    exact ⟨trivial, ⟨t_slotv rfl rfl, trivial⟩, rfl⟩
  · rintro k9 ⟨v5, c6, c7, l8⟩ q10 h12 H hq10
    replace H : gatemake_Stream_Probes_L1 l2 k9 v5 c6 c7 l8 = some q10 := H
    unfold gatemake_Stream_Probes_L1 at H
    refine awp_seq ?_
    refine awp_plain hN rfl ?_
    refine seq_run0 (stp_lss rfl rfl) ?_
    refine awp_seq ?_
    refine awp_cond _ rfl (fun h => ?_) (fun h => (lt_fI h12 h).elim)
    refine awp_skip ?_
    refine awp_seq ?_
    refine awp_block ?_
    refine awp_seq ?_
    refine awp_plain hN rfl ?_
    refine seq_run0 (stp_move (.dat _) rfl) ?_
    refine seq_run0 (stp_move (.ptr _ _) rfl) ?_
    refine seq_run0 (stp_dat (u' := vlst (List.map C_int [0, 1, 5, 10])) (stp_lit [[_], [_], [_], [_]] tyL22 ⟨rfl, .inl ⟨_, rfl, rfl, rfl⟩, rfl, rfl, .inl ⟨_, rfl, rfl, rfl⟩, rfl, rfl, .inl ⟨_, rfl, rfl, rfl⟩, rfl, rfl, .inl ⟨_, rfl, rfl, rfl⟩, rfl, trivial⟩ rfl rfl) rfl) ?_
    obtain ⟨r13, h14, H⟩ := bnd H
    refine seq_run2 (stp_imp (k_gatemake_Stream_Pick (S_gatemake_Stream.mk c6 c7) [0, 1, 5, 10] r13 h14) rfl ⟨.inl rfl, trivial⟩ rfl) rfl ?_
    refine seq_run0 (stp_wrap _ rfl rfl (.inl ⟨rfl, rfl⟩)) ?_
    refine seq_run0 (stp_assign (.dat _) rfl) ?_
    refine awp_seq ?_
    refine awp_plain hN rfl ?_
    refine seq_run0 (stp_move (.dat _) rfl) ?_
    refine seq_run0 (stp_move (.ptr _ _) rfl) ?_
    obtain ⟨r15, h16, H⟩ := bnd H
    refine seq_run2 (stp_imp (k_gatemake_Stream_InstanceKey r13.2 r15 h16) rfl trivial rfl) rfl ?_
    refine seq_run0 (stp_move (.ptr _ _) rfl) ?_
    obtain ⟨r17, h18, H⟩ := bnd H
    refine seq_run2 (stp_imp (k_gatemake_Stream_Flip r15.2 2 r17 h18) rfl ⟨.inl rfl, trivial⟩ rfl) rfl ?_
    refine seq_run0 (stp_dat (u' := vagg (C_api_Probe (S_api_Probe.mk (wr (v5 + r13.1)) r15.1 r17.1))) (stp_build [(0, [vint (wr (v5 + r13.1))]), (1, [vstr r15.1]), (2, [vbool r17.1])] tyZ136 tyP136 rfl ⟨rfl, .inl ⟨_, rfl, rfl, rfl⟩, rfl, rfl, .inl ⟨_, rfl, rfl, rfl⟩, rfl, rfl, .inl ⟨_, rfl, rfl, rfl⟩, rfl, trivial⟩) rfl) ?_
    refine seq_run2 (stp_alloc 2 tyZ136 rfl) rfl ?_
    refine seq_run2 (stp_storeW tyS136 rfl rfl rfl rfl) rfl ?_
    refine awp_joinE (ι := (List Int) × Int × Bs) (fun i => [(0, .ptr 0 0), (1, .dat (vlst (List.map C_api_Instance l2))), (5, .row 1 l8.length), (6, .dat (vint (wr (v5 + r13.1)))), (7, .ptr 2 0), (9, .dat (vint r3.1)), (10, .dat (vint (k9 : Int)))]) (fun i => [(0, .box (some bl) 25 [.dat (vlst (List.map C_int i.1)), .dat (vint i.2.1)]), (1, .row 136 3 (List.map C_api_Probe l8)), (2, .box none 136 [.dat (vint (wr (v5 + r13.1))), .dat (vstr i.2.2), .dat (vbool r17.1)])]) (fun i => gatemake_Stream_Probes_J2 v5 l8 r13 r17 i.1 i.2.1 i.2.2 = some q10) (fun i => rfl) ?_ ?_
    · skip
      refine awp_joinE (ι := Bool × (List Int) × Int) (fun i => [(0, .ptr 0 0), (1, .dat (vlst (List.map C_api_Instance l2))), (5, .row 1 l8.length), (6, .dat (vint (wr (v5 + r13.1)))), (7, .ptr 2 0), (9, .dat (vint r3.1)), (10, .dat (vint (k9 : Int))), (30, .dat (vbool i.1))]) (fun i => [(0, .box (some bl) 25 [.dat (vlst (List.map C_int i.2.1)), .dat (vint i.2.2)]), (1, .row 136 3 (List.map C_api_Probe l8)), (2, .box none 136 [.dat (vint (wr (v5 + r13.1))), .dat (vstr r15.1), .dat (vbool r17.1)])]) (fun i => gatemake_Stream_Probes_J3 l2 v5 l8 r13 r15 r17 i.1 i.2.1 i.2.2 = some q10) (fun i => rfl) ?_ ?_
      · skip
        refine awp_plain hN rfl ?_
        refine seq_run0 (stp_move (.dat _) rfl) ?_
        refine seq_run0 (t_len tyU48 rfl) ?_
        refine seq_run0 (stp_gtr rfl rfl) ?_
        refine seq_run0 (stp_move (.dat _) rfl) ?_
        refine seq_split (j := 3) rfl rfl (fun h19 => ?_) (fun h19 => ?_) rfl
        · have h20 := un1 h19
          replace H := ift h20 H
          refine seq_g0 rfl rfl h19 (stp_move (.ptr _ _) rfl) ?_
          obtain ⟨r21, h22, H⟩ := bnd H
          refine seq_g2 rfl rfl h19 (stp_imp (k_gatemake_Stream_Flip r17.2 60 r21 h22) rfl ⟨.inl rfl, trivial⟩ rfl) rfl ?_
          refine seq_g0 rfl rfl h19 (stp_not rfl) ?_
          refine seq_run0 (stp_pick_t rfl (bTT h20) rfl) ?_
          exact ⟨(!r21.1, r21.2.L, r21.2.at_), H, ⟨rfl, rfl, rfl, rfl, rfl, rfl, rfl, rfl, trivial⟩, ⟨rfl, rfl, rfl, trivial⟩⟩
        · have h23 := un2 h19
          replace H := iff_ h23 H
          refine seq_skip rfl rfl h19 ?_
          refine seq_skip rfl rfl h19 ?_
          refine seq_skip rfl rfl h19 ?_
          refine seq_run0 (stp_pick_f rfl (bFF h23) rfl) ?_
          exact ⟨(false, r17.2.L, r17.2.at_), H, ⟨rfl, rfl, rfl, rfl, rfl, rfl, rfl, rfl, trivial⟩, ⟨rfl, rfl, rfl, trivial⟩⟩
      · rintro ⟨v24, c25, c26⟩ H
        replace H : gatemake_Stream_Probes_J3 l2 v5 l8 r13 r15 r17 v24 c25 c26 = some q10 := H
        unfold gatemake_Stream_Probes_J3 at H
        refine awp_cond _ rfl (fun h27 => ?_) (fun h27 => ?_)
        · replace H := ift h27 H
          refine awp_plain hN rfl ?_
          refine seq_run0 (stp_move (.dat _) rfl) ?_
          refine seq_run0 (stp_move (.ptr _ _) rfl) ?_
          refine seq_run0 (stp_move (.dat _) rfl) ?_
          refine seq_run0 (t_len tyU48 rfl) ?_
          obtain ⟨r28, h29, H⟩ := bnd H
          refine seq_run2 (stp_imp (k_gatemake_Stream_Next (S_gatemake_Stream.mk c25 c26) (l2.length : Int) r28 h29) rfl ⟨.inl rfl, trivial⟩ rfl) rfl ?_
          obtain ⟨x30, h31, H⟩ := bnd H
          refine seq_run0 (t_idxI tyE48 (fun _ => rfl) rfl rfl h31) ?_
          refine seq_run0 (stp_fldE tyF114_0 rfl) ?_
          refine seq_run0 (stp_loadE1 tyS9 rfl (map_at (at_some h31).2) rfl) ?_
          refine seq_run0 (stp_fldP tyF136_1 rfl) ?_
          refine seq_run2 (stp_store1 tyS9 rfl rfl rfl rfl) rfl ?_
          exact ⟨(r28.2.L, r28.2.at_, x30.Key), H, ⟨rfl, rfl, rfl, rfl, rfl, rfl, rfl, trivial⟩, ⟨rfl, rfl, rfl, trivial⟩⟩
        · replace H := iff_ h27 H
          refine awp_skip ?_
          exact ⟨(c25, c26, r15.1), H, ⟨rfl, rfl, rfl, rfl, rfl, rfl, rfl, trivial⟩, ⟨rfl, rfl, rfl, trivial⟩⟩
    · rintro ⟨c32, c33, c34⟩ H
      replace H : gatemake_Stream_Probes_J2 v5 l8 r13 r17 c32 c33 c34 = some q10 := H
      unfold gatemake_Stream_Probes_J2 at H
      refine awp_joinE (ι := (List Int) × Int × Int) (fun i => [(0, .ptr 0 0), (1, .dat (vlst (List.map C_api_Instance l2))), (5, .row 1 l8.length), (6, .dat (vint (wr (v5 + r13.1)))), (7, .ptr 2 0), (9, .dat (vint r3.1)), (10, .dat (vint (k9 : Int)))]) (fun i => [(0, .box (some bl) 25 [.dat (vlst (List.map C_int i.1)), .dat (vint i.2.1)]), (1, .row 136 3 (List.map C_api_Probe l8)), (2, .box none 136 [.dat (vint i.2.2), .dat (vstr c34), .dat (vbool r17.1)])]) (fun i => gatemake_Stream_Probes_J4 v5 l8 r13 r17 c34 i.1 i.2.1 i.2.2 = some q10) (fun i => rfl) ?_ ?_
      · skip
        refine awp_seq ?_
        refine awp_plain hN rfl ?_
        refine seq_run0 (stp_move (.ptr _ _) rfl) ?_
        obtain ⟨r35, h36, H⟩ := bnd H
        refine seq_run2 (stp_imp (k_gatemake_Stream_Flip (S_gatemake_Stream.mk c32 c33) 80 r35 h36) rfl ⟨.inl rfl, trivial⟩ rfl) rfl ?_
        refine awp_cond _ rfl (fun h37 => ?_) (fun h37 => ?_)
        · replace H := ift h37 H
          refine awp_plain hN rfl ?_
          refine seq_run0 (stp_move (.ptr _ _) rfl) ?_
          obtain ⟨r38, h39, H⟩ := bnd H
          refine seq_run2 (stp_imp (k_gatemake_Stream_Odd r35.2 0 50 r38 h39) rfl ⟨.inl rfl, .inl rfl, trivial⟩ rfl) rfl ?_
          refine seq_run0 (stp_fldP tyF136_0 rfl) ?_
          refine seq_run2 (stp_store1 tyS3 rfl rfl rfl rfl) rfl ?_
          exact ⟨(r38.2.L, r38.2.at_, r38.1), H, ⟨rfl, rfl, rfl, rfl, rfl, rfl, rfl, trivial⟩, ⟨rfl, rfl, rfl, trivial⟩⟩
        · replace H := iff_ h37 H
          refine awp_skip ?_
          exact ⟨(r35.2.L, r35.2.at_, (wr (v5 + r13.1))), H, ⟨rfl, rfl, rfl, rfl, rfl, rfl, rfl, trivial⟩, ⟨rfl, rfl, rfl, trivial⟩⟩
      · rintro ⟨c40, c41, c42⟩ H
        replace H : gatemake_Stream_Probes_J4 v5 l8 r13 r17 c34 c40 c41 c42 = some q10 := H
        unfold gatemake_Stream_Probes_J4 at H
        refine awp_plain hN rfl ?_
        refine seq_run0 (stp_move (.row _ _) rfl) ?_
        refine seq_run1 (stp_loadA tyS136 rfl rfl rfl) rfl ?_
        refine seq_run0 (stp_dat (u' := vlst (List.map C_api_Probe [(S_api_Probe.mk c42 c34 r17.1)])) (stp_lit [_] tyL68 ⟨rfl, .inr rfl, rfl, trivial⟩ rfl rfl) rfl) ?_
        obtain ⟨h43, H⟩ := gif H
        refine seq_run2 (t_app tyL68 (fun _ => rfl) rfl rfl rfl ⟨by simp, by simpa using h43⟩ rfl) rfl ?_
        refine seq_run0 (stp_assign (.row _ _) rfl) ?_
        refine awp_plain hN rfl ?_
        refine seq_run0 (stp_add rfl rfl (by omega)) ?_
        refine seq_run0 (stp_move (.dat _) rfl) ?_
        exact ⟨_, backl H, ⟨rfl, rfl, rfl, rfl, rfl, rfl, trivial⟩, ⟨rfl, rfl, trivial⟩⟩
theorem k_kit_IsKey (s1 : Bs) (r : (Bool)) (H : m_kit_IsKey s1 = some r) : Fn Try.prog 92 [vstr s1] (resOf [vbool r]) := by
  refine ⟨by kernel_rfl, pure_of (us := [vbool r]) Try.func92 rfl rfl rfl rfl fun X hN => ?_⟩
  unfold m_kit_IsKey at H
  refine awp_seq ?_
  refine awp_plain hN rfl ?_
  refine seq_run0 (stp_assign (.dat _) rfl) ?_
  refine awp_seq ?_
  refine awp_seq ?_
  refine awp_plain hN rfl ?_
  refine seq_run0 (stp_assign (.dat _) rfl) ?_
  refine awp_block ?_
  obtain ⟨h4, H⟩ := gif H
  refine awp_forL (fun (i2 : Nat) (s : Unit) => [(0, .dat (vstr s1)), (3, .dat (vint (i2 : Int)))]) (fun (i2 : Nat) (s : Unit) => []) () H ⟨rfl, rfl, trivial⟩ trivial (fun _ _ => rfl) ?_ ?_
  · rintro ⟨⟩ H
    replace H : kit_IsKey_E1 s1 = some r := H
    unfold kit_IsKey_E1 at H
    refine awp_seq ?_
    refine awp_seq ?_
    refine awp_plain hN rfl ?_
    refine seq_run0 (stp_move (.dat _) rfl) ?_
    refine seq_run0 (stp_move (.dat _) rfl) ?_
    refine seq_run0 (stp_len_str tyU9 rfl) ?_
    refine seq_run0 (stp_lss rfl rfl) ?_
    refine awp_cond _ rfl (fun h => (lt_t h).elim) (fun h => ?_)
    refine awp_exit ?_
    refine awp_seq ?_
    refine awp_plain hN rfl ?_
    refine seq_run0 (stp_move (.dat _) rfl) ?_
    refine seq_run0 (stp_sneq rfl rfl) ?_
    refine seq_run0 (stp_move (.dat _) rfl) ?_
    refine seq_aT rfl rfl (fun hc => stp_move (.dat _) rfl) ?_
    refine seq_aT rfl rfl (fun hc => stp_len_str tyU9 (cnd (c := (decide (s1 ≠ []))) hc)) ?_
    refine seq_aT rfl rfl (fun hc => stp_leq (cnd (c := (decide (s1 ≠ []))) hc) rfl) ?_
    refine seq_run0 (stp_pick_and rfl (fun hb => (cnd (c := (decide (s1 ≠ []))) hb)) rfl) ?_
    refine seq_run0 (stp_assign (.dat _) rfl) ?_
    refine awp_ret ?_
    cases H
    exact ⟨trivial, .inl rfl, trivial⟩
  · rintro i2 x5 ⟨⟩ q3 h6 h7 H hq3
    replace H : kit_IsKey_L1 i2 x5 = some q3 := H
    unfold kit_IsKey_L1 at H
    refine awp_seq ?_
    refine awp_seq ?_
    refine awp_plain hN rfl ?_
    refine seq_run0 (stp_move (.dat _) rfl) ?_
    refine seq_run0 (stp_move (.dat _) rfl) ?_
    refine seq_run0 (stp_len_str tyU9 rfl) ?_
    refine seq_run0 (stp_lss rfl rfl) ?_
    refine awp_cond _ rfl (fun h => ?_) (fun h => (lt_f h6 h).elim)
    refine awp_skip ?_
    refine awp_seq ?_
    refine awp_block ?_
    refine awp_seq ?_
    refine awp_plain hN rfl ?_
    refine seq_run0 (stp_move (.dat _) rfl) ?_
    refine seq_run0 (stp_move (.dat _) rfl) ?_
    refine seq_run0 (t_byte tyU9 rfl rfl h7) ?_
    refine seq_run0 (stp_assign (.dat _) rfl) ?_
    refine awp_seq ?_
    refine awp_plain hN rfl ?_
    refine seq_run0 (stp_move (.dat _) rfl) ?_
    refine seq_run0 (stp_geq rfl rfl) ?_
    refine seq_run0 (stp_move (.dat _) rfl) ?_
    refine seq_aT rfl rfl (fun hc => stp_move (.dat _) rfl) ?_
    refine seq_aT rfl rfl (fun hc => stp_leq (cnd (c := (decide (97 ≤ (x5.toNat : Int)))) hc) rfl) ?_
    refine seq_run0 (stp_pick_and rfl (fun hb => (cnd (c := (decide (97 ≤ (x5.toNat : Int)))) hb)) rfl) ?_
    refine seq_run0 (stp_move (.dat _) rfl) ?_
    refine seq_aF rfl rfl (fun hc => stp_move (.dat _) rfl) ?_
    refine seq_aF rfl rfl (fun hc => stp_gtr (cnd (c := (!((decide (97 ≤ (x5.toNat : Int))) && (decide ((x5.toNat : Int) ≤ 122))))) hc) rfl) ?_
    refine seq_aF rfl rfl (fun hc => stp_move (.dat _) (cnd (c := (!((decide (97 ≤ (x5.toNat : Int))) && (decide ((x5.toNat : Int) ≤ 122))))) hc)) ?_
    refine seq_bT rfl rfl (fun hc => stp_move (.dat _) rfl) ?_
    refine seq_bT rfl rfl (fun hc => stp_geq (cnd (c := ((!((decide (97 ≤ (x5.toNat : Int))) && (decide ((x5.toNat : Int) ≤ 122)))) && (decide (0 < (i2 : Int))))) hc) rfl) ?_
    refine seq_bT rfl rfl (fun hc => stp_move (.dat _) (cnd (c := ((!((decide (97 ≤ (x5.toNat : Int))) && (decide ((x5.toNat : Int) ≤ 122)))) && (decide (0 < (i2 : Int))))) hc)) ?_
    refine seq_bT rfl rfl (fun hc => stp_move (.dat _) rfl) ?_
    refine seq_bT rfl rfl (fun hc => stp_leq (cnd (c := (((!((decide (97 ≤ (x5.toNat : Int))) && (decide ((x5.toNat : Int) ≤ 122)))) && (decide (0 < (i2 : Int)))) && (decide (48 ≤ (x5.toNat : Int))))) hc) rfl) ?_
    refine seq_bT rfl rfl (fun hc => stp_pick_and (cnd (c := ((!((decide (97 ≤ (x5.toNat : Int))) && (decide ((x5.toNat : Int) ≤ 122)))) && (decide (0 < (i2 : Int))))) hc) (fun hb => (cnd (c := (((!((decide (97 ≤ (x5.toNat : Int))) && (decide ((x5.toNat : Int) ≤ 122)))) && (decide (0 < (i2 : Int)))) && (decide (48 ≤ (x5.toNat : Int))))) (andI hc hb))) rfl) ?_
    refine seq_bT rfl rfl (fun hc => stp_move (.dat _) (cnd (c := ((!((decide (97 ≤ (x5.toNat : Int))) && (decide ((x5.toNat : Int) ≤ 122)))) && (decide (0 < (i2 : Int))))) hc)) ?_
    refine seq_bF rfl rfl (fun hc => stp_move (.dat _) rfl) ?_
    refine seq_bF rfl rfl (fun hc => stp_eql (cnd (c := (((!((decide (97 ≤ (x5.toNat : Int))) && (decide ((x5.toNat : Int) ≤ 122)))) && (decide (0 < (i2 : Int)))) && !((decide (48 ≤ (x5.toNat : Int))) && (decide ((x5.toNat : Int) ≤ 57))))) hc) rfl) ?_
    refine seq_bT rfl rfl (fun hc => stp_pick_or (cnd (c := ((!((decide (97 ≤ (x5.toNat : Int))) && (decide ((x5.toNat : Int) ≤ 122)))) && (decide (0 < (i2 : Int))))) hc) rfl (fun hb => (cnd (c := (((!((decide (97 ≤ (x5.toNat : Int))) && (decide ((x5.toNat : Int) ≤ 122)))) && (decide (0 < (i2 : Int)))) && !((decide (48 ≤ (x5.toNat : Int))) && (decide ((x5.toNat : Int) ≤ 57))))) (andI hc (notI hb))))) ?_
    refine seq_bT rfl rfl (fun hc => stp_move (.dat _) (cnd (c := ((!((decide (97 ≤ (x5.toNat : Int))) && (decide ((x5.toNat : Int) ≤ 122)))) && (decide (0 < (i2 : Int))))) hc)) ?_
    refine seq_bF rfl rfl (fun hc => stp_move (.dat _) rfl) ?_
    refine seq_bF rfl rfl (fun hc => stp_eql (cnd (c := (((!((decide (97 ≤ (x5.toNat : Int))) && (decide ((x5.toNat : Int) ≤ 122)))) && (decide (0 < (i2 : Int)))) && !(((decide (48 ≤ (x5.toNat : Int))) && (decide ((x5.toNat : Int) ≤ 57))) || (decide ((x5.toNat : Int) = 45))))) hc) rfl) ?_
    refine seq_bT rfl rfl (fun hc => stp_pick_or (cnd (c := ((!((decide (97 ≤ (x5.toNat : Int))) && (decide ((x5.toNat : Int) ≤ 122)))) && (decide (0 < (i2 : Int))))) hc) rfl (fun hb => (cnd (c := (((!((decide (97 ≤ (x5.toNat : Int))) && (decide ((x5.toNat : Int) ≤ 122)))) && (decide (0 < (i2 : Int)))) && !(((decide (48 ≤ (x5.toNat : Int))) && (decide ((x5.toNat : Int) ≤ 57))) || (decide ((x5.toNat : Int) = 45))))) (andI hc (notI hb))))) ?_
    refine seq_aF rfl rfl (fun hc => stp_pick_and (cnd (c := (!((decide (97 ≤ (x5.toNat : Int))) && (decide ((x5.toNat : Int) ≤ 122))))) hc) (fun hb => (cnd (c := ((!((decide (97 ≤ (x5.toNat : Int))) && (decide ((x5.toNat : Int) ≤ 122)))) && (decide (0 < (i2 : Int))))) (andI hc hb))) rfl) ?_
    refine seq_run0 (stp_pick_or rfl rfl (fun hb => (cnd (c := (!((decide (97 ≤ (x5.toNat : Int))) && (decide ((x5.toNat : Int) ≤ 122))))) (notI hb)))) ?_
    refine seq_run0 (stp_not rfl) ?_
    refine awp_cond _ rfl (fun h8 => ?_) (fun h8 => ?_)
    · replace H := ift h8 H
      refine awp_seq ?_
      refine awp_plain hN rfl ?_
      refine seq_run0 (stp_assign (.dat _) rfl) ?_
      refine awp_ret ?_
      replace H := retl H hq3
      cases H
      exact ⟨trivial, .inl rfl, trivial⟩
    · replace H := iff_ h8 H
      refine awp_skip ?_
      refine awp_plain hN rfl ?_
      refine seq_run0 (stp_move (.dat _) rfl) ?_
      refine seq_run0 (stp_add rfl rfl (by omega)) ?_
      refine seq_run0 (stp_assign (.dat _) rfl) ?_
      exact ⟨_, backl H, ⟨rfl, rfl, trivial⟩, trivial⟩
theorem k_kit_Outside (n1 : Int) (low2 : Int) (high3 : Int) (r : (Bool)) (H : m_kit_Outside n1 low2 high3 = some r) : Fn Try.prog 73 [vint n1, vint low2, vint high3] (resOf [vbool r]) := by
  refine ⟨by kernel_rfl, pure_of (us := [vbool r]) Try.func73 rfl rfl rfl rfl fun X hN => ?_⟩
  unfold m_kit_Outside at H
  refine awp_seq ?_
  refine awp_plain hN rfl ?_
  refine seq_run0 (stp_assign (.dat _) rfl) ?_
  refine awp_seq ?_
  refine awp_plain hN rfl ?_
  refine seq_run0 (stp_move (.dat _) rfl) ?_
  refine seq_run0 (stp_move (.dat _) rfl) ?_
  refine seq_run0 (stp_lss rfl rfl) ?_
  refine seq_run0 (stp_move (.dat _) rfl) ?_
  refine seq_aF rfl rfl (fun hc => stp_move (.dat _) rfl) ?_
  refine seq_aF rfl rfl (fun hc => stp_move (.dat _) rfl) ?_
  refine seq_aF rfl rfl (fun hc => stp_gtr (cnd (c := (!(decide (n1 < low2)))) hc) (cnd (c := (!(decide (n1 < low2)))) hc)) ?_
  refine seq_run0 (stp_pick_or rfl rfl (fun hb => (cnd (c := (!(decide (n1 < low2)))) (notI hb)))) ?_
  refine seq_run0 (stp_assign (.dat _) rfl) ?_
  refine awp_ret ?_
  cases H
  exact ⟨trivial, .inl rfl, trivial⟩
theorem k_upstream_CheckInstances (l1 : (List S_api_Instance)) (r : (Int)) (H : m_upstream_CheckInstances l1 = some r) : Fn Try.prog 38 [vlst (List.map C_api_Instance l1)] (resOf [vint r]) := by
  refine ⟨by kernel_rfl, pure_of (us := [vint r]) Try.func38 rfl rfl rfl rfl fun X hN => ?_⟩
  unfold m_upstream_CheckInstances at H
  refine awp_seq ?_
  refine awp_plain hN rfl ?_
  refine seq_run0 (stp_assign (.dat _) rfl) ?_
  refine awp_seq ?_
  refine awp_seq ?_
  refine awp_plain hN rfl ?_
  refine seq_run0 (stp_move (.dat _) rfl) ?_
  refine seq_run0 (t_len tyU48 rfl) ?_
  refine seq_run0 (stp_gtr rfl rfl) ?_
  refine awp_cond _ rfl (fun h2 => ?_) (fun h2 => ?_)
  · replace H := ift h2 H
    refine awp_seq ?_
    refine awp_plain hN rfl ?_
    refine seq_run0 (stp_assign (.dat _) rfl) ?_
    refine awp_ret ?_
    cases H
    exact ⟨trivial, .inl rfl, trivial⟩
  · replace H := iff_ h2 H
    refine awp_skip ?_
    refine awp_seq ?_
    refine awp_seq ?_
    refine awp_plain hN rfl ?_
    refine seq_run0 (stp_move (.dat _) rfl) ?_
    refine seq_run0 (t_len tyU48 rfl) ?_
    refine seq_run0 (stp_move (.dat _) rfl) ?_
    refine awp_block ?_
    obtain ⟨h5, H⟩ := gif H
    refine awp_forL (fun (k3 : Nat) (s : Unit) => [(0, .dat (vlst (List.map C_api_Instance l1))), (8, .dat (vlst (List.map C_api_Instance l1))), (9, .dat (vint (l1.length : Int))), (10, .dat (vint (k3 : Int)))]) (fun (k3 : Nat) (s : Unit) => []) () H ⟨rfl, rfl, rfl, rfl, trivial⟩ trivial (fun _ _ => rfl) ?_ ?_
    · rintro ⟨⟩ H
      replace H : upstream_CheckInstances_E1 = some r := H
      unfold upstream_CheckInstances_E1 at H
      refine awp_seq ?_
      refine awp_plain hN rfl ?_
      refine seq_run0 (stp_lss rfl rfl) ?_
      refine awp_seq ?_
      refine awp_cond _ rfl (fun h => (lt_t h).elim) (fun h => ?_)
      refine awp_exit ?_
      refine awp_seq ?_
      refine awp_plain hN rfl ?_
      refine seq_run0 (stp_assign (.dat _) rfl) ?_
      refine awp_ret ?_
      cases H
      exact ⟨trivial, .inl rfl, trivial⟩
    · rintro k3 x6 ⟨⟩ q4 h7 h8 H hq4
      replace H : upstream_CheckInstances_L1 l1 k3 x6 = some q4 := H
      unfold upstream_CheckInstances_L1 at H
      refine awp_seq ?_
      refine awp_plain hN rfl ?_
      refine seq_run0 (stp_lss rfl rfl) ?_
      refine awp_seq ?_
      refine awp_cond _ rfl (fun h => ?_) (fun h => (lt_f h7 h).elim)
      refine awp_skip ?_
      refine awp_seq ?_
      refine awp_block ?_
      refine awp_seq ?_
      refine awp_plain hN rfl ?_
      refine seq_run0 (stp_move (.dat _) rfl) ?_
      refine seq_run0 (t_idx tyE48 (fun _ => rfl) rfl rfl h8) ?_
      refine seq_run0 (stp_loadEA tyS114 rfl (map_at h8) rfl) ?_
      refine seq_run2 (stp_alloc 1 tyZ114 rfl) rfl ?_
      refine seq_run0 (stp_assign (.dat _) rfl) ?_
      refine seq_run2 (stp_storeW tyS114 rfl rfl rfl rfl) rfl ?_
      refine awp_block ?_
      refine awp_seq ?_
      refine awp_plain hN rfl ?_
      refine seq_run0 (stp_fldP tyF114_0 rfl) ?_
      refine seq_run1 (stp_load1 tyS9 rfl rfl) rfl ?_
      obtain ⟨r9, h10, H⟩ := bnd H
      refine seq_run0 (stp_call (k_kit_IsKey x6.Key r9 h10) ⟨.inl rfl, trivial⟩) ?_
      refine seq_run0 (stp_not rfl) ?_
      refine seq_run0 (stp_assign (.dat _) rfl) ?_
      refine awp_cond _ rfl (fun h11 => ?_) (fun h11 => ?_)
      · replace H := ift h11 H
        refine awp_seq ?_
        refine awp_plain hN rfl ?_
        refine seq_run0 (stp_assign (.dat _) rfl) ?_
        refine awp_ret ?_
        replace H := retl H hq4
        cases H
        exact ⟨trivial, .inl rfl, trivial⟩
      · replace H := iff_ h11 H
        refine awp_joinE (ι := Bool) (fun i => [(0, .dat (vlst (List.map C_api_Instance l1))), (4, .ptr 1 0), (8, .dat (vlst (List.map C_api_Instance l1))), (9, .dat (vint (l1.length : Int))), (10, .dat (vint (k3 : Int))), (20, .dat (vbool i))]) (fun i => [(1, .box none 114 [.dat (vstr x6.Key), .dat (vint x6.Weight)])]) (fun i => upstream_CheckInstances_J2 x6 i = some q4) (fun i => rfl) ?_ ?_
        · skip
          refine awp_draw mixed hN rfl rfl ?_
          refine seq_run0 (stp_move (.dat _) rfl) ?_
          refine seq_run0 (stp_gtr rfl rfl) ?_
          refine seq_run0 (stp_move (.dat _) rfl) ?_
          refine seq_split (j := 2) rfl rfl (fun h12 => ?_) (fun h12 => ?_) rfl
          · have h13 := un1 h12
            replace H := ift h13 H
            refine seq_g0 rfl rfl h12 (stp_fldP tyF114_0 rfl) ?_
            refine seq_g1 rfl rfl h12 (stp_load1 tyS9 rfl rfl) rfl ?_
            refine seq_g0 rfl rfl h12 (stp_move (.dat _) rfl) ?_
            refine seq_g0 rfl rfl h12 (stp_move (.dat _) rfl) ?_
            refine seq_g0 rfl rfl h12 (stp_sub rfl rfl (by omega)) ?_
            obtain ⟨x14, h15, H⟩ := bnd H
            refine seq_g0 rfl rfl h12 (t_idxI tyE48 (fun _ => rfl) rfl rfl h15) ?_
            refine seq_g0 rfl rfl h12 (stp_fldE tyF114_0 rfl) ?_
            refine seq_g0 rfl rfl h12 (stp_loadE1 tyS9 rfl (map_at (at_some h15).2) rfl) ?_
            refine seq_g0 rfl rfl h12 (stp_sleq rfl rfl) ?_
            refine seq_run0 (stp_pick_t rfl (bTT h13) rfl) ?_
            refine seq_run0 (stp_assign (.dat _) rfl) ?_
            refine ⟨rfl, ?_⟩
            exact ⟨(Op.bytesLess x6.Key x14.Key || x6.Key == x14.Key), H, ⟨rfl, rfl, rfl, rfl, rfl, rfl, trivial⟩, ⟨rfl, trivial⟩⟩
          · have h16 := un2 h12
            replace H := iff_ h16 H
            refine seq_skip rfl rfl h12 ?_
            refine seq_skip rfl rfl h12 ?_
            refine seq_skip rfl rfl h12 ?_
            refine seq_skip rfl rfl h12 ?_
            refine seq_skip rfl rfl h12 ?_
            refine seq_skip rfl rfl h12 ?_
            refine seq_skip rfl rfl h12 ?_
            refine seq_skip rfl rfl h12 ?_
            refine seq_skip rfl rfl h12 ?_
            refine seq_run0 (stp_pick_f rfl (bFF h16) rfl) ?_
            refine seq_run0 (stp_assign (.dat _) rfl) ?_
            refine ⟨rfl, ?_⟩
            exact ⟨false, H, ⟨rfl, rfl, rfl, rfl, rfl, rfl, trivial⟩, ⟨rfl, trivial⟩⟩
        · rintro v17 H
          replace H : upstream_CheckInstances_J2 x6 v17 = some q4 := H
          unfold upstream_CheckInstances_J2 at H
          refine awp_cond _ rfl (fun h18 => ?_) (fun h18 => ?_)
          · replace H := ift h18 H
            refine awp_seq ?_
            refine awp_plain hN rfl ?_
            refine seq_run0 (stp_assign (.dat _) rfl) ?_
            refine awp_ret ?_
            replace H := retl H hq4
            cases H
            exact ⟨trivial, .inl rfl, trivial⟩
          · replace H := iff_ h18 H
            refine awp_seq ?_
            refine awp_plain hN rfl ?_
            refine seq_run0 (stp_fldP tyF114_1 rfl) ?_
            refine seq_run1 (stp_load1 tyS3 rfl rfl) rfl ?_
            obtain ⟨r19, h20, H⟩ := bnd H
            refine seq_run0 (stp_call (k_kit_Outside x6.Weight 1 100 r19 h20) ⟨.inl rfl, .inl rfl, .inl rfl, trivial⟩) ?_
            refine seq_run0 (stp_assign (.dat _) rfl) ?_
            refine awp_cond _ rfl (fun h21 => ?_) (fun h21 => ?_)
            · replace H := ift h21 H
              refine awp_seq ?_
              refine awp_plain hN rfl ?_
              refine seq_run0 (stp_assign (.dat _) rfl) ?_
              refine awp_ret ?_
              replace H := retl H hq4
              cases H
              exact ⟨trivial, .inl rfl, trivial⟩
            · replace H := iff_ h21 H
              refine awp_skip ?_
              refine awp_plain hN rfl ?_
              refine seq_run0 (stp_add rfl rfl (by omega)) ?_
              refine seq_run0 (stp_move (.dat _) rfl) ?_
              exact ⟨_, backl H, ⟨rfl, rfl, rfl, rfl, trivial⟩, trivial⟩
theorem k_upstream_HealthFault (h1 : S_api_Health) (r : (Int)) (H : m_upstream_HealthFault h1 = some r) : Fn Try.prog 127 [vagg (C_api_Health h1)] (resOf [vint r]) := by
  refine ⟨by kernel_rfl, pure_of (us := [vint r]) Try.func127 rfl rfl rfl rfl fun X hN => ?_⟩
  unfold m_upstream_HealthFault at H
  refine awp_seq ?_
  refine awp_plain hN rfl ?_
  refine seq_run2 (stp_boxA 1 rfl) rfl ?_
  refine seq_run0 (stp_assign (.dat _) rfl) ?_
  refine awp_seq ?_
  refine awp_joinE (ι := Bool) (fun i => [(10, .dat (vbool i))]) (fun i => []) (fun i => upstream_HealthFault_J1 i = some r) (fun i => rfl) ?_ ?_
  · skip
    refine awp_plain hN rfl ?_
    refine seq_run0 (stp_fldP tyF66_0 rfl) ?_
    refine seq_run1 (stp_load1 tyS3 rfl rfl) rfl ?_
    obtain ⟨r2, h3, H⟩ := bnd H
    refine seq_run0 (stp_call (k_kit_Outside h1.Rise 1 100 r2 h3) ⟨.inl rfl, .inl rfl, .inl rfl, trivial⟩) ?_
    refine seq_run0 (stp_move (.dat _) rfl) ?_
    refine seq_split (j := 3) rfl rfl (fun h4 => ?_) (fun h4 => ?_) rfl
    · have h5 := un3 h4
      replace H := iff_ h5 H
      refine seq_g0 rfl rfl h4 (stp_fldP tyF66_1 rfl) ?_
      refine seq_g1 rfl rfl h4 (stp_load1 tyS3 rfl rfl) rfl ?_
      obtain ⟨r6, h7, H⟩ := bnd H
      refine seq_g0 rfl rfl h4 (stp_call (k_kit_Outside h1.Fall 1 100 r6 h7) ⟨.inl rfl, .inl rfl, .inl rfl, trivial⟩) ?_
      refine seq_run0 (stp_pick_f rfl (bFF h5) rfl) ?_
      exact ⟨r6, H, ⟨rfl, trivial⟩, trivial⟩
    · have h8 := un4 h4
      replace H := ift h8 H
      refine seq_skip rfl rfl h4 ?_
      refine seq_skip rfl rfl h4 ?_
      refine seq_skip rfl rfl h4 ?_
      refine seq_run0 (stp_pick_t rfl (bTT h8) rfl) ?_
      exact ⟨true, H, ⟨rfl, trivial⟩, trivial⟩
  · rintro v9 H
    replace H : upstream_HealthFault_J1 v9 = some r := H
    unfold upstream_HealthFault_J1 at H
    refine awp_cond _ rfl (fun h10 => ?_) (fun h10 => ?_)
    · replace H := ift h10 H
      refine awp_seq ?_
      refine awp_plain hN rfl ?_
      refine seq_run0 (stp_assign (.dat _) rfl) ?_
      refine awp_ret ?_
      cases H
      exact ⟨trivial, .inl rfl, trivial⟩
    · replace H := iff_ h10 H
      refine awp_skip ?_
      refine awp_seq ?_
      refine awp_plain hN rfl ?_
      refine seq_run0 (stp_assign (.dat _) rfl) ?_
      refine awp_ret ?_
      cases H
      exact ⟨trivial, .inl rfl, trivial⟩
theorem k_kit_IsMoment (n1 : Int) (r : (Bool)) (H : m_kit_IsMoment n1 = some r) : Fn Try.prog 93 [vint n1] (resOf [vbool r]) := by
  refine ⟨by kernel_rfl, pure_of (us := [vbool r]) Try.func93 rfl rfl rfl rfl fun X hN => ?_⟩
  unfold m_kit_IsMoment at H
  refine awp_seq ?_
  refine awp_plain hN rfl ?_
  refine seq_run0 (stp_assign (.dat _) rfl) ?_
  refine awp_seq ?_
  refine awp_plain hN rfl ?_
  refine seq_run0 (stp_move (.dat _) rfl) ?_
  refine seq_run0 (stp_geq rfl rfl) ?_
  refine seq_run0 (stp_move (.dat _) rfl) ?_
  refine seq_aT rfl rfl (fun hc => stp_move (.dat _) rfl) ?_
  refine seq_aT rfl rfl (fun hc => stp_lss (cnd (c := (decide (0 ≤ n1))) hc) rfl) ?_
  refine seq_run0 (stp_pick_and rfl (fun hb => (cnd (c := (decide (0 ≤ n1))) hb)) rfl) ?_
  refine seq_run0 (stp_assign (.dat _) rfl) ?_
  refine awp_ret ?_
  cases H
  exact ⟨trivial, .inl rfl, trivial⟩
theorem k_slices_BinarySearchFunc_L_api_Instance_api_Instance_string_ (x1 : (List S_api_Instance)) (target2 : Bs) (p2 : S_api_Instance → Bs → Option (Int)) (fv2 : Nat) (us2 : List V) (hp2 : ∀ a0 a1 r, p2 a0 a1 = some r → Fn Try.prog fv2 ([vagg (C_api_Instance a0), vstr a1] ++ us2) (resOf [vint r])) (r : (Int × Bool)) (H : m_slices_BinarySearchFunc_L_api_Instance_api_Instance_string_ x1 target2 p2 = some r) : Fn Try.prog 124 [vlst (List.map C_api_Instance x1), vstr target2, vfn fv2 us2] (resOf [vint r.1, vbool r.2]) := by
  refine ⟨by kernel_rfl, pure_of (us := [vint r.1, vbool r.2]) Try.func124 rfl rfl rfl rfl fun X hN => ?_⟩
  unfold m_slices_BinarySearchFunc_L_api_Instance_api_Instance_string_ at H
  refine awp_seq ?_
  refine awp_plain hN rfl ?_
  refine seq_run0 (stp_assign (.dat _) rfl) ?_
  refine seq_run0 (stp_assign (.dat _) rfl) ?_
  refine awp_seq ?_
  refine awp_plain hN rfl ?_
  refine seq_run0 (stp_move (.dat _) rfl) ?_
  refine seq_run0 (t_len tyU48 rfl) ?_
  refine seq_run0 (stp_assign (.dat _) rfl) ?_
  refine awp_seq ?_
  refine awp_plain hN rfl ?_
  refine seq_run0 (stp_move (.dat _) rfl) ?_
  refine seq_run0 (stp_assign (.dat _) rfl) ?_
  refine seq_run0 (stp_assign (.dat _) rfl) ?_
  refine awp_joinE (ι := Int) (fun i => [(0, .dat (vlst (List.map C_api_Instance x1))), (1, .dat (vstr target2)), (2, .dat (vfn fv2 us2)), (8, .dat (vint (x1.length : Int))), (9, .dat (vint i))]) (fun i => []) (fun i => slices_BinarySearchFunc_L_api_Instance_api_Instance_string__J1 x1 target2 p2 i = some r) (fun i => rfl) ?_ ?_
  · skip
    refine awp_block ?_
    refine awp_iter (fun (s : Int × Int) => [(0, .dat (vlst (List.map C_api_Instance x1))), (1, .dat (vstr target2)), (2, .dat (vfn fv2 us2)), (8, .dat (vint (x1.length : Int))), (9, .dat (vint s.1)), (10, .dat (vint s.2))]) (fun (s : Int × Int) => []) (0, (x1.length : Int)) H ⟨rfl, rfl, rfl, rfl, rfl, rfl, trivial⟩ trivial (fun _ => rfl) ?_
    rintro ⟨i3, j4⟩ q5 H hq5
    replace H : slices_BinarySearchFunc_L_api_Instance_api_Instance_string__L2 x1 target2 p2 i3 j4 = some q5 := H
    unfold slices_BinarySearchFunc_L_api_Instance_api_Instance_string__L2 at H
    refine awp_seq ?_
    refine awp_seq ?_
    refine awp_plain hN rfl ?_
    refine seq_run0 (stp_move (.dat _) rfl) ?_
    refine seq_run0 (stp_move (.dat _) rfl) ?_
    refine seq_run0 (stp_lss rfl rfl) ?_
    refine awp_cond _ rfl (fun h6 => ?_) (fun h6 => ?_)
    · replace H := ift h6 H
      refine awp_skip ?_
      refine awp_block ?_
      refine awp_seq ?_
      refine awp_plain hN rfl ?_
      refine seq_run0 (stp_move (.dat _) rfl) ?_
      refine seq_run0 (stp_move (.dat _) rfl) ?_
      refine seq_run0 (stp_wrap _ rfl rfl (.inl ⟨rfl, rfl⟩)) ?_
      refine seq_run0 (stp_conv tyU3 tyU184 rfl) ?_
      refine seq_run0 (stp_dat (stp_shr rfl rfl (by decide)) rfl) ?_
      refine seq_run0 (stp_conv tyU184 tyU3 rfl) ?_
      refine seq_run0 (stp_assign (.dat _) rfl) ?_
      refine awp_seq ?_
      refine awp_plain hN rfl ?_
      refine seq_run0 (stp_move (.dat _) rfl) ?_
      refine seq_run0 (stp_move (.dat _) rfl) ?_
      refine seq_run0 (stp_move (.dat _) rfl) ?_
      obtain ⟨x7, h8, H⟩ := bnd H
      refine seq_run0 (t_idxI tyE48 (fun _ => rfl) rfl rfl h8) ?_
      refine seq_run0 (stp_loadEA tyS114 rfl (map_at (at_some h8).2) rfl) ?_
      refine seq_run0 (stp_move (.dat _) rfl) ?_
      obtain ⟨r9, h10, H⟩ := bnd H
      refine seq_run0 (stp_callv (hp2 x7 target2 r9 h10) rfl ⟨.inl rfl, .inl rfl, trivial⟩) ?_
      refine seq_run0 (stp_lss rfl rfl) ?_
      refine awp_cond _ rfl (fun h11 => ?_) (fun h11 => ?_)
      · replace H := ift h11 H
        refine awp_plain hN rfl ?_
        refine seq_run0 (stp_move (.dat _) rfl) ?_
        refine seq_run0 (stp_wrap _ rfl rfl (.inl ⟨rfl, rfl⟩)) ?_
        refine seq_run0 (stp_assign (.dat _) rfl) ?_
        exact ⟨_, backl H, ⟨rfl, rfl, rfl, rfl, rfl, rfl, trivial⟩, trivial⟩
      · replace H := iff_ h11 H
        refine awp_plain hN rfl ?_
        refine seq_run0 (stp_move (.dat _) rfl) ?_
        refine seq_run0 (stp_assign (.dat _) rfl) ?_
        exact ⟨_, backl H, ⟨rfl, rfl, rfl, rfl, rfl, rfl, trivial⟩, trivial⟩
    · replace H := iff_ h6 H
      refine awp_exit ?_
      replace H := outl H hq5
      exact ⟨i3, H, ⟨rfl, rfl, rfl, rfl, rfl, trivial⟩, trivial⟩
  · rintro i12 H
    replace H : slices_BinarySearchFunc_L_api_Instance_api_Instance_string__J1 x1 target2 p2 i12 = some r := H
    unfold slices_BinarySearchFunc_L_api_Instance_api_Instance_string__J1 at H
    refine awp_joinE (ι := Bool) (fun i => [(6, .dat (vint i12)), (7, .dat (vbool i))]) (fun i => []) (fun i => slices_BinarySearchFunc_L_api_Instance_api_Instance_string__J3 i12 i = some r) (fun i => rfl) ?_ ?_
    · skip
      refine awp_plain hN rfl ?_
      refine seq_run0 (stp_move (.dat _) rfl) ?_
      refine seq_run0 (stp_move (.dat _) rfl) ?_
      refine seq_run0 (stp_move (.dat _) rfl) ?_
      refine seq_run0 (stp_lss rfl rfl) ?_
      refine seq_run0 (stp_move (.dat _) rfl) ?_
      refine seq_split (j := 4) rfl rfl (fun h13 => ?_) (fun h13 => ?_) rfl
      · have h14 := un1 h13
        replace H := ift h14 H
        refine seq_g0 rfl rfl h13 (stp_move (.dat _) rfl) ?_
        refine seq_g0 rfl rfl h13 (stp_move (.dat _) rfl) ?_
        refine seq_g0 rfl rfl h13 (stp_move (.dat _) rfl) ?_
        obtain ⟨x15, h16, H⟩ := bnd H
        refine seq_g0 rfl rfl h13 (t_idxI tyE48 (fun _ => rfl) rfl rfl h16) ?_
        refine seq_g0 rfl rfl h13 (stp_loadEA tyS114 rfl (map_at (at_some h16).2) rfl) ?_
        refine seq_g0 rfl rfl h13 (stp_move (.dat _) rfl) ?_
        obtain ⟨r17, h18, H⟩ := bnd H
        refine seq_g0 rfl rfl h13 (stp_callv (hp2 x15 target2 r17 h18) rfl ⟨.inl rfl, .inl rfl, trivial⟩) ?_
        refine seq_g0 rfl rfl h13 (stp_eql rfl rfl) ?_
        refine seq_run0 (stp_pick_t rfl (bTT h14) rfl) ?_
        refine seq_run0 (stp_assign (.dat _) rfl) ?_
        refine seq_run0 (stp_assign (.dat _) rfl) ?_
        exact ⟨decide (r17 = 0), H, ⟨rfl, rfl, trivial⟩, trivial⟩
      · have h19 := un2 h13
        replace H := iff_ h19 H
        refine seq_skip rfl rfl h13 ?_
        refine seq_skip rfl rfl h13 ?_
        refine seq_skip rfl rfl h13 ?_
        refine seq_skip rfl rfl h13 ?_
        refine seq_skip rfl rfl h13 ?_
        refine seq_skip rfl rfl h13 ?_
        refine seq_skip rfl rfl h13 ?_
        refine seq_skip rfl rfl h13 ?_
        refine seq_run0 (stp_pick_f rfl (bFF h19) rfl) ?_
        refine seq_run0 (stp_assign (.dat _) rfl) ?_
        refine seq_run0 (stp_assign (.dat _) rfl) ?_
        exact ⟨false, H, ⟨rfl, rfl, trivial⟩, trivial⟩
    · rintro v20 H
      replace H : slices_BinarySearchFunc_L_api_Instance_api_Instance_string__J3 i12 v20 = some r := H
      unfold slices_BinarySearchFunc_L_api_Instance_api_Instance_string__J3 at H
      refine awp_ret ?_
      cases H
      exact ⟨trivial, .inl rfl, .inl rfl, trivial⟩
theorem k_upstream_place_1 (x1 : S_api_Instance) (k2 : Bs) (r : (Int)) (H : m_upstream_place_1 x1 k2 = some r) : Fn Try.prog 125 [vagg (C_api_Instance x1), vstr k2] (resOf [vint r]) := by
  refine ⟨by kernel_rfl, pure_of (us := [vint r]) Try.func125 rfl rfl rfl rfl fun X hN => ?_⟩
  unfold m_upstream_place_1 at H
  refine awp_seq ?_
  refine awp_plain hN rfl ?_
  refine seq_run2 (stp_boxA 1 rfl) rfl ?_
  refine seq_run0 (stp_assign (.dat _) rfl) ?_
  refine awp_seq ?_
  refine awp_plain hN rfl ?_
  refine seq_run0 (stp_fldP tyF114_0 rfl) ?_
  refine seq_run1 (stp_load1 tyS9 rfl rfl) rfl ?_
  refine seq_run0 (stp_move (.dat _) rfl) ?_
  obtain ⟨r3, h4, H⟩ := bnd H
  refine seq_run0 (stp_call (k_strings_Compare x1.Key k2 r3 h4) ⟨.inl rfl, .inl rfl, trivial⟩) ?_
  refine seq_run0 (stp_assign (.dat _) rfl) ?_
  refine awp_ret ?_
  cases H
  exact ⟨trivial, .inl rfl, trivial⟩
theorem k_upstream_place (l1 : (List S_api_Instance)) (key2 : Bs) (r : (Int × Bool)) (H : m_upstream_place l1 key2 = some r) : Fn Try.prog 97 [vlst (List.map C_api_Instance l1), vstr key2] (resOf [vint r.1, vbool r.2]) := by
  refine ⟨by kernel_rfl, pure_of (us := [vint r.1, vbool r.2]) Try.func97 rfl rfl rfl rfl fun X hN => ?_⟩
  unfold m_upstream_place at H
  refine awp_seq ?_
  refine awp_plain hN rfl ?_
  refine seq_run0 (stp_assign (.dat _) rfl) ?_
  refine seq_run0 (stp_assign (.dat _) rfl) ?_
  refine awp_seq ?_
  refine awp_plain hN rfl ?_
  refine seq_run0 (stp_move (.dat _) rfl) ?_
  refine seq_run0 (stp_move (.dat _) rfl) ?_
  obtain ⟨r3, h4, H⟩ := bnd H
  refine seq_run0 (stp_callW (k_slices_BinarySearchFunc_L_api_Instance_api_Instance_string_ l1 key2 (fun (a0 : S_api_Instance) (a1 : Bs) => m_upstream_place_1 a0 a1) 125 [] (fun a0 a1 r h => k_upstream_place_1 a0 a1 r h) r3 h4) ⟨.inl (.inl rfl), .inl (.inl rfl), .inr ⟨_, rfl, rfl⟩, trivial⟩) ?_
  refine seq_run0 (stp_ext rfl rfl) ?_
  refine seq_run0 (stp_ext rfl rfl) ?_
  refine seq_run0 (stp_assign (.dat _) rfl) ?_
  refine seq_run0 (stp_assign (.dat _) rfl) ?_
  refine awp_ret ?_
  cases H
  exact ⟨trivial, .inl rfl, .inl rfl, trivial⟩
theorem k_upstream_CheckProbes (l1 : (List S_api_Instance)) (p2 : (List S_api_Probe)) (r : (Int)) (H : m_upstream_CheckProbes l1 p2 = some r) : Fn Try.prog 39 [vlst (List.map C_api_Instance l1), vlst (List.map C_api_Probe p2)] (resOf [vint r]) := by
  refine ⟨by kernel_rfl, pure_of (us := [vint r]) Try.func39 rfl rfl rfl rfl fun X hN => ?_⟩
  unfold m_upstream_CheckProbes at H
  refine awp_seq ?_
  refine awp_plain hN rfl ?_
  refine seq_run0 (stp_assign (.dat _) rfl) ?_
  refine awp_seq ?_
  refine awp_seq ?_
  refine awp_plain hN rfl ?_
  refine seq_run0 (stp_move (.dat _) rfl) ?_
  obtain ⟨r3, h4, H⟩ := bnd H
  refine seq_run0 (stp_call (k_upstream_CheckInstances l1 r3 h4) ⟨.inl rfl, trivial⟩) ?_
  refine seq_run0 (stp_assign (.dat _) rfl) ?_
  refine awp_seq ?_
  refine awp_plain hN rfl ?_
  refine seq_run0 (stp_move (.dat _) rfl) ?_
  refine seq_run0 (stp_neq rfl rfl) ?_
  refine awp_cond _ rfl (fun h5 => ?_) (fun h5 => ?_)
  · replace H := ift h5 H
    refine awp_seq ?_
    refine awp_plain hN rfl ?_
    refine seq_run0 (stp_move (.dat _) rfl) ?_
    refine seq_run0 (stp_assign (.dat _) rfl) ?_
    refine awp_ret ?_
    cases H
    exact ⟨trivial, .inl rfl, trivial⟩
  · replace H := iff_ h5 H
    refine awp_skip ?_
    refine awp_seq ?_
    refine awp_seq ?_
    refine awp_plain hN rfl ?_
    refine seq_run0 (stp_move (.dat _) rfl) ?_
    refine seq_run0 (t_len tyU68 rfl) ?_
    refine seq_run0 (stp_gtr rfl rfl) ?_
    refine awp_cond _ rfl (fun h6 => ?_) (fun h6 => ?_)
    · replace H := ift h6 H
      refine awp_seq ?_
      refine awp_plain hN rfl ?_
      refine seq_run0 (stp_assign (.dat _) rfl) ?_
      refine awp_ret ?_
      cases H
      exact ⟨trivial, .inl rfl, trivial⟩
    · replace H := iff_ h6 H
      refine awp_skip ?_
      refine awp_seq ?_
      refine awp_seq ?_
      refine awp_plain hN rfl ?_
      refine seq_run0 (stp_move (.dat _) rfl) ?_
      refine seq_run0 (t_len tyU68 rfl) ?_
      refine seq_run0 (stp_move (.dat _) rfl) ?_
      refine awp_block ?_
      obtain ⟨h9, H⟩ := gif H
      refine awp_forL (fun (k7 : Nat) (s : Unit) => [(0, .dat (vlst (List.map C_api_Instance l1))), (1, .dat (vlst (List.map C_api_Probe p2))), (18, .dat (vlst (List.map C_api_Probe p2))), (19, .dat (vint (p2.length : Int))), (20, .dat (vint (k7 : Int)))]) (fun (k7 : Nat) (s : Unit) => []) () H ⟨rfl, rfl, rfl, rfl, rfl, trivial⟩ trivial (fun _ _ => rfl) ?_ ?_
      · rintro ⟨⟩ H
        replace H : upstream_CheckProbes_E1 = some r := H
        unfold upstream_CheckProbes_E1 at H
        refine awp_seq ?_
        refine awp_plain hN rfl ?_
        refine seq_run0 (stp_lss rfl rfl) ?_
        refine awp_seq ?_
        refine awp_cond _ rfl (fun h => (lt_t h).elim) (fun h => ?_)
        refine awp_exit ?_
        refine awp_seq ?_
        refine awp_plain hN rfl ?_
        refine seq_run0 (stp_assign (.dat _) rfl) ?_
        refine awp_ret ?_
        cases H
        exact ⟨trivial, .inl rfl, trivial⟩
      · rintro k7 x10 ⟨⟩ q8 h11 h12 H hq8
        replace H : upstream_CheckProbes_L1 l1 p2 k7 x10 = some q8 := H
        unfold upstream_CheckProbes_L1 at H
        refine awp_seq ?_
        refine awp_plain hN rfl ?_
        refine seq_run0 (stp_lss rfl rfl) ?_
        refine awp_seq ?_
        refine awp_cond _ rfl (fun h => ?_) (fun h => (lt_f h11 h).elim)
        refine awp_skip ?_
        refine awp_seq ?_
        refine awp_block ?_
        refine awp_seq ?_
        refine awp_plain hN rfl ?_
        refine seq_run0 (stp_move (.dat _) rfl) ?_
        refine seq_run0 (t_idx tyE68 (fun _ => rfl) rfl rfl h12) ?_
        refine seq_run0 (stp_loadEA tyS136 rfl (map_at h12) rfl) ?_
        refine seq_run2 (stp_alloc 1 tyZ136 rfl) rfl ?_
        refine seq_run0 (stp_assign (.dat _) rfl) ?_
        refine seq_run2 (stp_storeW tyS136 rfl rfl rfl rfl) rfl ?_
        refine awp_seq ?_
        refine awp_seq ?_
        refine awp_plain hN rfl ?_
        refine seq_run0 (stp_fldP tyF136_0 rfl) ?_
        refine seq_run1 (stp_load1 tyS3 rfl rfl) rfl ?_
        obtain ⟨r13, h14, H⟩ := bnd H
        refine seq_run0 (stp_call (k_kit_IsMoment x10.At r13 h14) ⟨.inl rfl, trivial⟩) ?_
        refine seq_run0 (stp_not rfl) ?_
        refine awp_cond _ rfl (fun h15 => ?_) (fun h15 => ?_)
        · replace H := ift h15 H
          refine awp_seq ?_
          refine awp_plain hN rfl ?_
          refine seq_run0 (stp_assign (.dat _) rfl) ?_
          refine awp_ret ?_
          replace H := retl H hq8
          cases H
          exact ⟨trivial, .inl rfl, trivial⟩
        · replace H := iff_ h15 H
          refine awp_skip ?_
          refine awp_seq ?_
          refine awp_seq ?_
          refine awp_plain hN rfl ?_
          refine seq_run0 (stp_move (.dat _) rfl) ?_
          refine seq_run0 (stp_fldP tyF136_1 rfl) ?_
          refine seq_run1 (stp_load1 tyS9 rfl rfl) rfl ?_
          obtain ⟨r16, h17, H⟩ := bnd H
          refine seq_run0 (stp_call (k_upstream_place l1 x10.Instance r16 h17) ⟨.inl rfl, .inl rfl, trivial⟩) ?_
          refine seq_run0 (stp_move (.dat _) rfl) ?_
          refine seq_run0 (stp_ext rfl rfl) ?_
          refine seq_run0 (stp_ext rfl rfl) ?_
          refine seq_run0 (stp_assign (.dat _) rfl) ?_
          refine seq_run0 (stp_assign (.dat _) rfl) ?_
          refine awp_seq ?_
          refine awp_plain hN rfl ?_
          refine seq_run0 (stp_move (.dat _) rfl) ?_
          refine seq_run0 (stp_not rfl) ?_
          refine awp_cond _ rfl (fun h18 => ?_) (fun h18 => ?_)
          · replace H := ift h18 H
            refine awp_seq ?_
            refine awp_plain hN rfl ?_
            refine seq_run0 (stp_assign (.dat _) rfl) ?_
            refine awp_ret ?_
            replace H := retl H hq8
            cases H
            exact ⟨trivial, .inl rfl, trivial⟩
          · replace H := iff_ h18 H
            refine awp_skip ?_
            refine awp_joinE (ι := Bool) (fun i => [(0, .dat (vlst (List.map C_api_Instance l1))), (1, .dat (vlst (List.map C_api_Probe p2))), (18, .dat (vlst (List.map C_api_Probe p2))), (19, .dat (vint (p2.length : Int))), (20, .dat (vint (k7 : Int))), (50, .dat (vbool i))]) (fun i => []) (fun i => upstream_CheckProbes_J2 i = some q8) (fun i => rfl) ?_ ?_
            · skip
              refine awp_draw mixed hN rfl rfl ?_
              refine seq_run0 (stp_move (.dat _) rfl) ?_
              refine seq_run0 (stp_gtr rfl rfl) ?_
              refine seq_run0 (stp_move (.dat _) rfl) ?_
              refine seq_split (j := 2) rfl rfl (fun h19 => ?_) (fun h19 => ?_) rfl
              · have h20 := un1 h19
                replace H := ift h20 H
                refine seq_g0 rfl rfl h19 (stp_fldP tyF136_0 rfl) ?_
                refine seq_g1 rfl rfl h19 (stp_load1 tyS3 rfl rfl) rfl ?_
                refine seq_g0 rfl rfl h19 (stp_move (.dat _) rfl) ?_
                refine seq_g0 rfl rfl h19 (stp_move (.dat _) rfl) ?_
                refine seq_g0 rfl rfl h19 (stp_sub rfl rfl (by omega)) ?_
                obtain ⟨x21, h22, H⟩ := bnd H
                refine seq_g0 rfl rfl h19 (t_idxI tyE68 (fun _ => rfl) rfl rfl h22) ?_
                refine seq_g0 rfl rfl h19 (stp_fldE tyF136_0 rfl) ?_
                refine seq_g0 rfl rfl h19 (stp_loadE1 tyS3 rfl (map_at (at_some h22).2) rfl) ?_
                refine seq_g0 rfl rfl h19 (stp_lss rfl rfl) ?_
                refine seq_run0 (stp_pick_t rfl (bTT h20) rfl) ?_
                refine ⟨rfl, ?_⟩
                exact ⟨decide (x10.At < x21.At), H, ⟨rfl, rfl, rfl, rfl, rfl, rfl, trivial⟩, trivial⟩
              · have h23 := un2 h19
                replace H := iff_ h23 H
                refine seq_skip rfl rfl h19 ?_
                refine seq_skip rfl rfl h19 ?_
                refine seq_skip rfl rfl h19 ?_
                refine seq_skip rfl rfl h19 ?_
                refine seq_skip rfl rfl h19 ?_
                refine seq_skip rfl rfl h19 ?_
                refine seq_skip rfl rfl h19 ?_
                refine seq_skip rfl rfl h19 ?_
                refine seq_skip rfl rfl h19 ?_
                refine seq_run0 (stp_pick_f rfl (bFF h23) rfl) ?_
                refine ⟨rfl, ?_⟩
                exact ⟨false, H, ⟨rfl, rfl, rfl, rfl, rfl, rfl, trivial⟩, trivial⟩
            · rintro v24 H
              replace H : upstream_CheckProbes_J2 v24 = some q8 := H
              unfold upstream_CheckProbes_J2 at H
              refine awp_cond _ rfl (fun h25 => ?_) (fun h25 => ?_)
              · replace H := ift h25 H
                refine awp_seq ?_
                refine awp_plain hN rfl ?_
                refine seq_run0 (stp_assign (.dat _) rfl) ?_
                refine awp_ret ?_
                replace H := retl H hq8
                cases H
                exact ⟨trivial, .inl rfl, trivial⟩
              · replace H := iff_ h25 H
                refine awp_skip ?_
                refine awp_plain hN rfl ?_
                refine seq_run0 (stp_add rfl rfl (by omega)) ?_
                refine seq_run0 (stp_move (.dat _) rfl) ?_
                exact ⟨_, backl H, ⟨rfl, rfl, rfl, rfl, rfl, trivial⟩, trivial⟩
theorem k_upstream_healthFault (l1 : (List S_api_Instance)) (h2 : S_api_Health) (p3 : (List S_api_Probe)) (r : (Int)) (H : m_upstream_healthFault l1 h2 p3 = some r) : Fn Try.prog 100 [vlst (List.map C_api_Instance l1), vagg (C_api_Health h2), vlst (List.map C_api_Probe p3)] (resOf [vint r]) := by
  refine ⟨by kernel_rfl, pure_of (us := [vint r]) Try.func100 rfl rfl rfl rfl fun X hN => ?_⟩
  unfold m_upstream_healthFault at H
  refine awp_seq ?_
  refine awp_plain hN rfl ?_
  refine seq_run2 (stp_boxA 1 rfl) rfl ?_
  refine seq_run0 (stp_assign (.dat _) rfl) ?_
  refine awp_seq ?_
  refine awp_seq ?_
  refine awp_plain hN rfl ?_
  refine seq_run0 (stp_move (.dat _) rfl) ?_
  obtain ⟨r4, h5, H⟩ := bnd H
  refine seq_run0 (stp_call (k_upstream_CheckInstances l1 r4 h5) ⟨.inl rfl, trivial⟩) ?_
  refine seq_run0 (stp_assign (.dat _) rfl) ?_
  refine awp_seq ?_
  refine awp_plain hN rfl ?_
  refine seq_run0 (stp_move (.dat _) rfl) ?_
  refine seq_run0 (stp_neq rfl rfl) ?_
  refine awp_cond _ rfl (fun h6 => ?_) (fun h6 => ?_)
  · replace H := ift h6 H
    refine awp_seq ?_
    refine awp_plain hN rfl ?_
    refine seq_run0 (stp_move (.dat _) rfl) ?_
    refine seq_run0 (stp_assign (.dat _) rfl) ?_
    refine awp_ret ?_
    cases H
    exact ⟨trivial, .inl rfl, trivial⟩
  · replace H := iff_ h6 H
    refine awp_skip ?_
    refine awp_seq ?_
    refine awp_seq ?_
    refine awp_plain hN rfl ?_
    refine seq_run1 (stp_loadA tyS66 rfl rfl rfl) rfl ?_
    obtain ⟨r7, h8, H⟩ := bnd H
    refine seq_run0 (stp_call (k_upstream_HealthFault h2 r7 h8) ⟨.inl rfl, trivial⟩) ?_
    refine seq_run0 (stp_assign (.dat _) rfl) ?_
    refine awp_seq ?_
    refine awp_plain hN rfl ?_
    refine seq_run0 (stp_move (.dat _) rfl) ?_
    refine seq_run0 (stp_neq rfl rfl) ?_
    refine awp_cond _ rfl (fun h9 => ?_) (fun h9 => ?_)
    · replace H := ift h9 H
      refine awp_seq ?_
      refine awp_plain hN rfl ?_
      refine seq_run0 (stp_move (.dat _) rfl) ?_
      refine seq_run0 (stp_assign (.dat _) rfl) ?_
      refine awp_ret ?_
      cases H
      exact ⟨trivial, .inl rfl, trivial⟩
    · replace H := iff_ h9 H
      refine awp_skip ?_
      refine awp_seq ?_
      refine awp_plain hN rfl ?_
      refine seq_run0 (stp_move (.dat _) rfl) ?_
      refine seq_run0 (stp_move (.dat _) rfl) ?_
      obtain ⟨r10, h11, H⟩ := bnd H
      refine seq_run0 (stp_call (k_upstream_CheckProbes l1 p3 r10 h11) ⟨.inl rfl, .inl rfl, trivial⟩) ?_
      refine seq_run0 (stp_assign (.dat _) rfl) ?_
      refine awp_ret ?_
      cases H
      exact ⟨trivial, .inl rfl, trivial⟩
theorem ke_upstream_health_probed (xs : List S_upstream_health) (kk : Nat) (s1 : S_upstream_health) (h2 : S_api_Health) (good3 : Bool) (r : (Bool × S_upstream_health)) (H : m_upstream_health_probed s1 h2 good3 = some r) (hx : xs[kk]? = some s1) : FnG Try.prog 128 [.rptr 0 xs.length 2 kk 0, .dat (vagg (C_api_Health h2)), .dat (vbool good3)] [(0, .rowA undef 142 2 (List.map C_upstream_health xs))] (.dat (resOf [vbool r.1])) [(0, .rowA undef 142 2 (List.map C_upstream_health (xs.set kk r.2)))] := by
  refine fnG_of (by kernel_rfl) Try.func128 rfl rfl rfl rfl fun X A hN => ?_
  unfold m_upstream_health_probed at H
  refine awp_seq ?_
  refine awp_plain hN rfl ?_
  refine seq_run2 (stp_boxA 1 rfl) rfl ?_
  refine seq_run0 (stp_assign (.dat _) rfl) ?_
  refine awp_seq ?_
  refine awp_seq ?_
  refine awp_plain hN rfl ?_
  refine seq_run0 (stp_move (.dat _) rfl) ?_
  refine seq_run0 (stp_move (.rptr _ _ _ _ _) rfl) ?_
  refine seq_run0 (stp_nilR rfl) ?_
  refine seq_run0 (stp_fldR tyF142_0 rfl) ?_
  refine seq_run1 (e_load1 tyS4 rfl rfl hx rfl) rfl ?_
  refine seq_run0 (stp_bneq tyU4 rfl rfl) ?_
  refine awp_cond _ rfl (fun h4 => ?_) (fun h4 => ?_)
  · replace H := ift h4 H
    refine awp_seq ?_
    refine awp_plain hN rfl ?_
    refine seq_run0 (stp_move (.rptr _ _ _ _ _) rfl) ?_
    refine seq_run0 (stp_nilR rfl) ?_
    refine seq_run0 (stp_fldR tyF142_1 rfl) ?_
    refine seq_run2 (e_store (S_upstream_health.mk s1.down_ 0) tyS3 rfl rfl rfl rfl hx rfl rfl) rfl ?_
    refine awp_seq ?_
    refine awp_plain hN rfl ?_
    refine seq_run0 (stp_assign (.dat _) rfl) ?_
    refine awp_ret ?_
    cases H
    exact ⟨trivial, [(6, .dat (vbool false))], ⟨rfl, trivial⟩, ⟨rfl, trivial⟩, rfl, .inl ⟨[vbool false], ⟨rfl, trivial⟩, rfl⟩⟩
  · replace H := iff_ h4 H
    refine awp_skip ?_
    refine awp_seq ?_
    refine awp_plain hN rfl ?_
    refine seq_run0 (stp_move (.rptr _ _ _ _ _) rfl) ?_
    refine seq_run0 (stp_nilR rfl) ?_
    refine seq_run0 (stp_fldR tyF142_1 rfl) ?_
    refine seq_run1 (e_load1 tyS3 rfl rfl hx rfl) rfl ?_
    refine seq_run0 (stp_wrap _ rfl rfl (.inl ⟨rfl, rfl⟩)) ?_
    refine seq_run0 (stp_nilR rfl) ?_
    refine seq_run0 (stp_fldR tyF142_1 rfl) ?_
    refine seq_run2 (e_store (S_upstream_health.mk s1.down_ (wr (s1.row_ + 1))) tyS3 rfl rfl rfl rfl hx rfl rfl) rfl ?_
    refine awp_seq ?_
    refine awp_plain hN rfl ?_
    refine seq_run0 (stp_fldP tyF66_1 rfl) ?_
    refine seq_run1 (stp_load1 tyS3 rfl rfl) rfl ?_
    refine seq_run0 (stp_assign (.dat _) rfl) ?_
    refine awp_joinE (ι := Int) (fun i => [(0, .rptr 0 xs.length 2 kk 0), (7, .dat (vint i))]) (fun i => [(0, .rowA (A.vl 0) 142 2 (List.map C_upstream_health (xs.set kk (S_upstream_health.mk s1.down_ (wr (s1.row_ + 1))))))]) (fun i => upstream_health_probed_J1 s1 i = some r) (fun i => rfl) ?_ ?_
    · skip
      refine awp_seq ?_
      refine awp_plain hN rfl ?_
      refine seq_run0 (stp_move (.rptr _ _ _ _ _) rfl) ?_
      refine seq_run0 (stp_nilR rfl) ?_
      refine seq_run0 (stp_fldR tyF142_0 rfl) ?_
      refine seq_run1 (e_load1 tyS4 rfl (by simp) (set_at hx) rfl) rfl ?_
      refine awp_cond _ rfl (fun h5 => ?_) (fun h5 => ?_)
      · replace H := ift h5 H
        refine awp_plain hN rfl ?_
        refine seq_run0 (stp_fldP tyF66_0 rfl) ?_
        refine seq_run1 (stp_load1 tyS3 rfl rfl) rfl ?_
        refine seq_run0 (stp_assign (.dat _) rfl) ?_
        exact ⟨h2.Rise, H, ⟨rfl, rfl, trivial⟩, ⟨rfl, trivial⟩⟩
      · replace H := iff_ h5 H
        refine awp_skip ?_
        exact ⟨h2.Fall, H, ⟨rfl, rfl, trivial⟩, ⟨rfl, trivial⟩⟩
    · rintro most6 H
      replace H : upstream_health_probed_J1 s1 most6 = some r := H
      unfold upstream_health_probed_J1 at H
      refine awp_seq ?_
      refine awp_seq ?_
      refine awp_plain hN rfl ?_
      refine seq_run0 (stp_move (.rptr _ _ _ _ _) rfl) ?_
      refine seq_run0 (stp_nilR rfl) ?_
      refine seq_run0 (stp_fldR tyF142_1 rfl) ?_
      refine seq_run1 (e_load1 tyS3 rfl (by simp) (set_at hx) rfl) rfl ?_
      refine seq_run0 (stp_move (.dat _) rfl) ?_
      refine seq_run0 (stp_lss rfl rfl) ?_
      refine awp_cond _ rfl (fun h7 => ?_) (fun h7 => ?_)
      · replace H := ift h7 H
        refine awp_seq ?_
        refine awp_plain hN rfl ?_
        refine seq_run0 (stp_assign (.dat _) rfl) ?_
        refine awp_ret ?_
        cases H
        exact ⟨trivial, [(6, .dat (vbool false))], ⟨rfl, trivial⟩, ⟨rfl, trivial⟩, rfl, .inl ⟨[vbool false], ⟨rfl, trivial⟩, rfl⟩⟩
      · replace H := iff_ h7 H
        refine awp_skip ?_
        refine awp_seq ?_
        refine awp_plain hN rfl ?_
        refine seq_run0 (stp_move (.rptr _ _ _ _ _) rfl) ?_
        refine seq_run0 (stp_move (.rptr _ _ _ _ _) rfl) ?_
        refine seq_run0 (stp_move (.rptr _ _ _ _ _) rfl) ?_
        refine seq_run0 (stp_nilR rfl) ?_
        refine seq_run0 (stp_fldR tyF142_0 rfl) ?_
        refine seq_run1 (e_load1 tyS4 rfl (by simp) (set_at hx) rfl) rfl ?_
        refine seq_run0 (stp_not rfl) ?_
        refine seq_run0 (stp_nilR rfl) ?_
        refine seq_run0 (stp_fldR tyF142_0 rfl) ?_
        refine seq_run2 (e_store2 (S_upstream_health.mk (!s1.down_) (wr (s1.row_ + 1))) tyS4 rfl rfl rfl rfl hx rfl rfl) rfl ?_
        refine seq_run0 (stp_nilR rfl) ?_
        refine seq_run0 (stp_fldR tyF142_1 rfl) ?_
        refine seq_run2 (e_store2 (S_upstream_health.mk (!s1.down_) 0) tyS3 rfl rfl rfl rfl hx rfl rfl) rfl ?_
        refine awp_seq ?_
        refine awp_plain hN rfl ?_
        refine seq_run0 (stp_assign (.dat _) rfl) ?_
        refine awp_ret ?_
        cases H
        exact ⟨trivial, [(6, .dat (vbool true))], ⟨rfl, trivial⟩, ⟨rfl, trivial⟩, rfl, .inl ⟨[vbool true], ⟨rfl, trivial⟩, rfl⟩⟩
theorem k_upstream_turns (l1 : (List S_api_Instance)) (h2 : S_api_Health) (p3 : (List S_api_Probe)) (v4 : Int) (r : ((List S_api_Turn) × (List S_upstream_health))) (H : m_upstream_turns l1 h2 p3 v4 = some r) : Fn Try.prog 101 [vlst (List.map C_api_Instance l1), vagg (C_api_Health h2), vlst (List.map C_api_Probe p3), vint v4] (resOf [vlst (List.map C_api_Turn r.1), vlst (List.map C_upstream_health r.2)]) := by
  refine ⟨by kernel_rfl, pure_of (us := [vlst (List.map C_api_Turn r.1), vlst (List.map C_upstream_health r.2)]) Try.func101 rfl rfl rfl rfl fun X hN => ?_⟩
  unfold m_upstream_turns at H
  refine awp_seq ?_
  refine awp_plain hN rfl ?_
  refine seq_run2 (stp_boxA 1 rfl) rfl ?_
  refine seq_run0 (stp_assign (.dat _) rfl) ?_
  refine seq_run0 (stp_assign (.dat _) rfl) ?_
  refine awp_seq ?_
  refine awp_plain hN rfl ?_
  refine seq_run0 (stp_move (.dat _) rfl) ?_
  refine seq_run0 (t_len tyU48 rfl) ?_
  obtain ⟨h5, H⟩ := gif H
  refine seq_run2 (t_make (C := C_upstream_health) 2 (S_upstream_health.mk false 0) tyL138 tyZ142 rfl rfl rfl rfl h5 rfl) rfl ?_
  refine seq_run0 (stp_assign (.row _ _) rfl) ?_
  refine awp_seq ?_
  refine awp_plain hN rfl ?_
  refine seq_run0 (stp_assign (.dat _) rfl) ?_
  refine awp_joinE (ι := (List S_upstream_health) × (List S_api_Turn)) (fun i => [(10, .row 2 i.1.length), (11, .row 3 i.2.length)]) (fun i => [(2, .row 142 2 (List.map C_upstream_health i.1)), (3, .row 84 3 (List.map C_api_Turn i.2))]) (fun i => upstream_turns_J1 i.1 i.2 = some r) (fun i => rfl) ?_ ?_
  · skip
    refine awp_seq ?_
    refine awp_plain hN rfl ?_
    refine seq_run0 (stp_move (.dat _) rfl) ?_
    refine seq_run0 (t_len tyU68 rfl) ?_
    refine seq_run0 (stp_move (.dat _) rfl) ?_
    refine awp_block ?_
    refine awp_nilrow 11 3 84 3 rfl rfl rfl ?_
    obtain ⟨h10, H⟩ := gif H
    refine awp_forL (fun (k8 : Nat) (s : (List S_upstream_health) × (List S_api_Turn)) => [(0, .dat (vlst (List.map C_api_Instance l1))), (3, .dat (vint v4)), (5, .ptr 1 0), (10, .row 2 s.1.length), (11, .row 3 s.2.length), (19, .dat (vlst (List.map C_api_Probe p3))), (20, .dat (vint (p3.length : Int))), (21, .dat (vint (k8 : Int)))]) (fun (k8 : Nat) (s : (List S_upstream_health) × (List S_api_Turn)) => [(1, .box none 66 [.dat (vint h2.Rise), .dat (vint h2.Fall)]), (2, .row 142 2 (List.map C_upstream_health s.1)), (3, .row 84 3 (List.map C_api_Turn s.2))]) ((List.replicate l1.length (S_upstream_health.mk false 0)), []) H ⟨rfl, rfl, rfl, congrArg (Slot.row 2) (by simp), congrArg (Slot.row 3) (by simp), rfl, rfl, rfl, trivial⟩ ⟨rfl, rfl, rfl, trivial⟩ (fun _ _ => rfl) ?_ ?_
    · rintro ⟨l6, l7⟩ H
      replace H : upstream_turns_E2 l6 l7 = some r := H
      unfold upstream_turns_E2 at H
      refine awp_seq ?_
      refine awp_plain hN rfl ?_
      refine seq_run0 (stp_lss rfl rfl) ?_
      refine awp_seq ?_
      refine awp_cond _ rfl (fun h => (lt_t h).elim) (fun h => ?_)
      refine awp_exit ?_
      exact ⟨(l6, l7), H, ⟨rfl, rfl, trivial⟩, ⟨rfl, rfl, trivial⟩⟩
    · rintro k8 x11 ⟨l6, l7⟩ q9 h12 h13 H hq9
      replace H : upstream_turns_L2 l1 h2 v4 k8 x11 l6 l7 = some q9 := H
      unfold upstream_turns_L2 at H
      refine awp_seq ?_
      refine awp_plain hN rfl ?_
      refine seq_run0 (stp_lss rfl rfl) ?_
      refine awp_seq ?_
      refine awp_cond _ rfl (fun h => ?_) (fun h => (lt_f h12 h).elim)
      refine awp_skip ?_
      refine awp_joinE (ι := (List S_upstream_health) × (List S_api_Turn)) (fun i => [(0, .dat (vlst (List.map C_api_Instance l1))), (3, .dat (vint v4)), (5, .ptr 1 0), (10, .row 2 i.1.length), (11, .row 3 i.2.length), (19, .dat (vlst (List.map C_api_Probe p3))), (20, .dat (vint (p3.length : Int))), (21, .dat (vint (k8 : Int)))]) (fun i => [(1, .box none 66 [.dat (vint h2.Rise), .dat (vint h2.Fall)]), (2, .row 142 2 (List.map C_upstream_health i.1)), (3, .row 84 3 (List.map C_api_Turn i.2))]) (fun i => upstream_turns_J3 i.1 i.2 = some q9) (fun i => rfl) ?_ ?_
      · skip
        refine awp_block ?_
        refine awp_seq ?_
        refine awp_plain hN rfl ?_
        refine seq_run0 (t_idx tyE68 (fun _ => rfl) rfl rfl h13) ?_
        refine seq_run0 (stp_loadEA tyS136 rfl (map_at h13) rfl) ?_
        refine seq_run2 (stp_alloc 4 tyZ136 rfl) rfl ?_
        refine seq_run2 (stp_storeW tyS136 rfl rfl rfl rfl) rfl ?_
        refine awp_seq ?_
        refine awp_seq ?_
        refine awp_plain hN rfl ?_
        refine seq_run0 (stp_fldP tyF136_0 rfl) ?_
        refine seq_run1 (stp_load1 tyS3 rfl rfl) rfl ?_
        refine seq_run0 (stp_move (.dat _) rfl) ?_
        refine seq_run0 (stp_gtr rfl rfl) ?_
        refine awp_cond _ rfl (fun h14 => ?_) (fun h14 => ?_)
        · replace H := ift h14 H
          refine awp_exit ?_
          replace H := outl H hq9
          exact ⟨(l6, l7), H, ⟨rfl, rfl, trivial⟩, ⟨rfl, rfl, trivial⟩⟩
        · replace H := iff_ h14 H
          refine awp_skip ?_
          refine awp_seq ?_
          refine awp_plain hN rfl ?_
          refine seq_run0 (stp_move (.dat _) rfl) ?_
          refine seq_run0 (stp_fldP tyF136_1 rfl) ?_
          refine seq_run1 (stp_load1 tyS9 rfl rfl) rfl ?_
          obtain ⟨r15, h16, H⟩ := bnd H
          refine seq_run0 (stp_call (k_upstream_place l1 x11.Instance r15 h16) ⟨.inl rfl, .inl rfl, trivial⟩) ?_
          refine seq_run0 (stp_move (.dat _) rfl) ?_
          refine seq_run0 (stp_ext rfl rfl) ?_
          refine seq_run0 (stp_ext rfl rfl) ?_
          refine seq_run0 (stp_assign (.dat _) rfl) ?_
          refine seq_run0 (stp_assign (.dat _) rfl) ?_
          refine awp_seq ?_
          refine awp_draw mixed hN rfl rfl ?_
          refine seq_run0 (stp_move (.row _ _) rfl) ?_
          refine seq_run0 (stp_move (.dat _) rfl) ?_
          obtain ⟨x17, h18, H⟩ := bnd H
          refine seq_run1 (t_idxRI tyE138 rfl rfl rfl h18) rfl ?_
          refine seq_run1 (stp_loadA tyS66 rfl rfl rfl) rfl ?_
          refine seq_run0 (stp_fldP tyF136_2 rfl) ?_
          refine seq_run1 (stp_load1 tyS4 rfl rfl) rfl ?_
          obtain ⟨r19, h20, H⟩ := bnd H
          refine seq_callG (rn [(0, 2)]) [(0, _, _, some _)] [] (ke_upstream_health_probed l6 r15.1.toNat x17 h2 x11.Good r19 h20 (at_some h18).2) ⟨rfl, trivial⟩ ⟨.inl (.inl rfl), .inl (.inl rfl), .inl (.inl rfl), trivial⟩ ⟨⟨⟨rfl, rfl, rfl⟩, by simp [stayP]⟩, trivial⟩ rfl ?_
          refine ⟨rfl, ?_⟩
          refine awp_cond _ rfl (fun h21 => ?_) (fun h21 => ?_)
          · replace H := ift h21 H
            refine awp_draw mixed hN rfl rfl ?_
            refine seq_run0 (stp_move (.row _ _) rfl) ?_
            refine seq_run0 (stp_fldP tyF136_0 rfl) ?_
            refine seq_run1 (stp_load1 tyS3 rfl rfl) rfl ?_
            refine seq_run0 (stp_fldP tyF136_1 rfl) ?_
            refine seq_run1 (stp_load1 tyS9 rfl rfl) rfl ?_
            refine seq_run0 (stp_move (.row _ _) rfl) ?_
            refine seq_run0 (stp_move (.dat _) rfl) ?_
            obtain ⟨x22, h23, H⟩ := bnd H
            refine seq_run1 (t_idxRI tyE138 rfl (by simp) rfl h23) rfl ?_
            refine seq_run0 (stp_fldR tyF142_0 rfl) ?_
            refine seq_run1 (t_loadR1 tyS4 rfl (by simp) (at_some h23).2 rfl) rfl ?_
            refine seq_run0 (stp_not rfl) ?_
            refine seq_run0 (stp_dat (u' := vagg (C_api_Turn (S_api_Turn.mk x11.At x11.Instance (!x22.down_)))) (stp_build [(0, [vint x11.At]), (1, [vstr x11.Instance]), (2, [vbool (!x22.down_)])] tyZ84 tyP84 rfl ⟨rfl, .inl ⟨_, rfl, rfl, rfl⟩, rfl, rfl, .inl ⟨_, rfl, rfl, rfl⟩, rfl, rfl, .inl ⟨_, rfl, rfl, rfl⟩, rfl, trivial⟩) rfl) ?_
            refine seq_run0 (stp_dat (u' := vlst (List.map C_api_Turn [(S_api_Turn.mk x11.At x11.Instance (!x22.down_))])) (stp_lit [_] tyL70 ⟨rfl, .inr rfl, rfl, trivial⟩ rfl rfl) rfl) ?_
            obtain ⟨h24, H⟩ := gif H
            refine seq_run2 (t_app tyL70 (fun _ => rfl) rfl rfl rfl ⟨by simp, by simpa using h24⟩ rfl) rfl ?_
            refine seq_run0 (stp_assign (.row _ _) rfl) ?_
            refine ⟨rfl, ?_⟩
            exact ⟨((l6.set r15.1.toNat r19.2), (l7 ++ [(S_api_Turn.mk x11.At x11.Instance (!x22.down_))])), H, ⟨rfl, rfl, rfl, congrArg (Slot.row 2) (by simp), rfl, rfl, rfl, rfl, trivial⟩, ⟨rfl, rfl, rfl, trivial⟩⟩
          · replace H := iff_ h21 H
            refine awp_skip ?_
            exact ⟨((l6.set r15.1.toNat r19.2), l7), H, ⟨rfl, rfl, rfl, congrArg (Slot.row 2) (by simp), rfl, rfl, rfl, rfl, trivial⟩, ⟨rfl, rfl, rfl, trivial⟩⟩
      · rintro ⟨now25, out26⟩ H
        replace H : upstream_turns_J3 now25 out26 = some q9 := H
        unfold upstream_turns_J3 at H
        refine awp_plain hN rfl ?_
        refine seq_run0 (stp_add rfl rfl (by omega)) ?_
        refine seq_run0 (stp_move (.dat _) rfl) ?_
        exact ⟨_, backl H, ⟨rfl, rfl, rfl, rfl, rfl, rfl, rfl, rfl, trivial⟩, ⟨rfl, rfl, rfl, trivial⟩⟩
  · rintro ⟨now27, out28⟩ H
    replace H : upstream_turns_J1 now27 out28 = some r := H
    unfold upstream_turns_J1 at H
    refine awp_seq ?_
    refine awp_plain hN rfl ?_
    refine seq_run0 (stp_move (.row _ _) rfl) ?_
    refine seq_run0 (stp_move (.row _ _) rfl) ?_
    refine seq_run0 (stp_assign (.row _ _) rfl) ?_
    refine seq_run0 (stp_assign (.row _ _) rfl) ?_
    refine awp_ret ?_
    cases H
    exact ⟨trivial, t_slotv rfl rfl, t_slotv rfl rfl, trivial⟩
theorem k_upstream_Turns (l1 : (List S_api_Instance)) (h2 : S_api_Health) (p3 : (List S_api_Probe)) (r : ((List S_api_Turn) × Int)) (H : m_upstream_Turns l1 h2 p3 = some r) : Fn Try.prog 36 [vlst (List.map C_api_Instance l1), vagg (C_api_Health h2), vlst (List.map C_api_Probe p3)] (resOf [vlst (List.map C_api_Turn r.1), vint r.2]) := by
  refine ⟨by kernel_rfl, pure_of (us := [vlst (List.map C_api_Turn r.1), vint r.2]) Try.func36 rfl rfl rfl rfl fun X hN => ?_⟩
  unfold m_upstream_Turns at H
  refine awp_seq ?_
  refine awp_plain hN rfl ?_
  refine seq_run2 (stp_boxA 1 rfl) rfl ?_
  refine seq_run0 (stp_assign (.dat _) rfl) ?_
  refine seq_run0 (stp_assign (.dat _) rfl) ?_
  refine awp_seq ?_
  refine awp_seq ?_
  refine awp_plain hN rfl ?_
  refine seq_run0 (stp_move (.dat _) rfl) ?_
  refine seq_run1 (stp_loadA tyS66 rfl rfl rfl) rfl ?_
  refine seq_run0 (stp_move (.dat _) rfl) ?_
  obtain ⟨r4, h5, H⟩ := bnd H
  refine seq_run0 (stp_call (k_upstream_healthFault l1 h2 p3 r4 h5) ⟨.inl rfl, .inl rfl, .inl rfl, trivial⟩) ?_
  refine seq_run0 (stp_assign (.dat _) rfl) ?_
  refine awp_seq ?_
  refine awp_plain hN rfl ?_
  refine seq_run0 (stp_move (.dat _) rfl) ?_
  refine seq_run0 (stp_neq rfl rfl) ?_
  refine awp_cond _ rfl (fun h6 => ?_) (fun h6 => ?_)
  · replace H := ift h6 H
    refine awp_seq ?_
    refine awp_plain hN rfl ?_
    refine seq_run0 (stp_move (.dat _) rfl) ?_
    refine seq_run0 (stp_assign (.dat _) rfl) ?_
    refine seq_run0 (stp_assign (.dat _) rfl) ?_
    refine awp_ret ?_
    cases H
    exact ⟨trivial, .inr ⟨rfl, rfl⟩, .inl rfl, trivial⟩
  · replace H := iff_ h6 H
    refine awp_skip ?_
    refine awp_seq ?_
    refine awp_plain hN rfl ?_
    refine seq_run0 (stp_move (.dat _) rfl) ?_
    refine seq_run1 (stp_loadA tyS66 rfl rfl rfl) rfl ?_
    refine seq_run0 (stp_move (.dat _) rfl) ?_
    obtain ⟨r7, h8, H⟩ := bnd H
    refine seq_run0 (stp_call (k_upstream_turns l1 h2 p3 345686400000 r7 h8) ⟨.inl rfl, .inl rfl, .inl rfl, .inl rfl, trivial⟩) ?_
    refine seq_run0 (stp_move (.dat _) rfl) ?_
    refine seq_run0 (stp_ext rfl rfl) ?_
    refine seq_run0 (stp_ext rfl rfl) ?_
    refine seq_run0 (stp_assign (.dat _) rfl) ?_
    refine seq_run0 (stp_assign (.dat _) rfl) ?_
    refine awp_seq ?_
    refine awp_plain hN rfl ?_
    refine seq_run0 (stp_move (.dat _) rfl) ?_
    refine seq_run0 (stp_assign (.dat _) rfl) ?_
    refine seq_run0 (stp_assign (.dat _) rfl) ?_
    refine awp_ret ?_
    cases H
    exact ⟨trivial, .inl rfl, .inl rfl, trivial⟩
end Go.Proofs.Ytmcegaabopcmfaa
