/- Walks along the models. Printed by a program. -/
import Derived.Test.YtecnjgefohnkpaaYuc
namespace Go.Proofs.Ytecnjgefohnkpaa
open Go.RowKit
set_option linter.unusedVariables false
set_option maxRecDepth 20000
set_option maxHeartbeats 2000000
theorem k_gatemake_Below (x1 : Int) (n2 : Int) (r : (Int)) (H : m_gatemake_Below x1 n2 = some r) : Fn Try.prog 42 [vint x1, vint n2] (resOf [vint r]) := by
 refine ⟨by kernel_rfl, pure_of (us := [vint r]) Try.func42 rfl rfl rfl rfl fun X hN => ?_⟩
 unfold m_gatemake_Below at H
 refine awp_seq ?_
 refine awp_plain hN rfl ?_
 refine qe rfl ?_
 refine awp_seq ?_
 refine awp_seq ?_
 refine awp_plain hN rfl ?_
 refine qd rfl ?_
 refine seq_run0 (stp_lss rfl rfl) ?_
 refine awp_cond _ rfl (fun h3 => ?_) (fun h3 => ?_)
 ·replace H := ift h3 H
  refine awp_seq ?_
  refine awp_plain hN rfl ?_
  refine qe rfl ?_
  refine awp_ret ?_
  cases H
  exact ⟨trivial, .inl rfl, trivial⟩
 ·replace H := iff_ h3 H
  refine awp_skip ?_
  refine awp_seq ?_
  refine awp_plain hN rfl ?_
  refine qd rfl ?_
  refine qd rfl ?_
  obtain ⟨h4, H⟩ := gif H
  refine seq_run0 (stp_remT rfl rfl h4) ?_
  refine qe rfl ?_
  refine awp_joinE (ι := Int) (fun i => [(0, .dat (vint i))]) (fun i => []) (fun i => gatemake_Below_J1 i = some r) (fun i => rfl) ?_ ?_
  ·skip
   refine awp_seq ?_
   refine awp_plain hN rfl ?_
   refine qd rfl ?_
   refine seq_run0 (stp_lss rfl rfl) ?_
   refine awp_cond _ rfl (fun h5 => ?_) (fun h5 => ?_)
   ·replace H := ift h5 H
    refine awp_plain hN rfl ?_
    refine qd rfl ?_
    refine qd rfl ?_
    refine seq_run0 (stp_wrap _ rfl rfl (.inl ⟨rfl, rfl⟩)) ?_
    refine qe rfl ?_
    exact ⟨wr ((Int.tmod x1 n2) + n2), H, ⟨rfl, trivial⟩, trivial⟩
   ·replace H := iff_ h5 H
    refine awp_skip ?_
    exact ⟨(Int.tmod x1 n2), H, ⟨rfl, trivial⟩, trivial⟩
  ·rintro x6 H
   replace H : gatemake_Below_J1 x6 = some r := H
   unfold gatemake_Below_J1 at H
   refine awp_seq ?_
   refine awp_plain hN rfl ?_
   refine qd rfl ?_
   refine qe rfl ?_
   refine awp_ret ?_
   cases H
   exact ⟨trivial, .inl rfl, trivial⟩
theorem k_gatemake_Stream_Next (s1 : S_gatemake_Stream) (n2 : Int) (r : (Int × S_gatemake_Stream)) (H : m_gatemake_Stream_Next s1 n2 = some r) : Imp Try.prog 20 25 (C_gatemake_Stream s1) [vint n2] (resOf [vint r.1]) (C_gatemake_Stream r.2) := by
 refine imp_of (us := [vint r.1]) (cs' := (C_gatemake_Stream r.2)) (by kernel_rfl) Try.func20 rfl rfl rfl rfl fun X bl hN => ?_
 unfold m_gatemake_Stream_Next at H
 refine awp_seq ?_
 refine awp_plain hN rfl ?_
 refine qe rfl ?_
 refine awp_seq ?_
 refine awp_plain hN rfl ?_
 refine seq_run0 (stp_move (.ptr _ _) rfl) ?_
 refine seq_run0 (stp_nilP rfl) ?_
 refine seq_run0 (stp_fldP tyF25_1 rfl) ?_
 refine seq_run1 (stp_load1 tyS3 rfl rfl) rfl ?_
 refine seq_run0 (stp_wrap _ rfl rfl (.inl ⟨rfl, rfl⟩)) ?_
 refine seq_run0 (stp_nilP rfl) ?_
 refine seq_run0 (stp_fldP tyF25_1 rfl) ?_
 refine seq_run2 (stp_store1 tyS3 rfl rfl rfl rfl) rfl ?_
 refine awp_seq ?_
 refine awp_seq ?_
 refine awp_plain hN rfl ?_
 refine seq_run0 (stp_move (.ptr _ _) rfl) ?_
 refine seq_run0 (stp_nilP rfl) ?_
 refine seq_run0 (stp_fldP tyF25_0 rfl) ?_
 refine seq_run1 (stp_load1 tyS22 rfl rfl) rfl ?_
 refine seq_run0 (t_len tyU22 rfl) ?_
 refine seq_run0 (stp_eql rfl rfl) ?_
 refine awp_cond _ rfl (fun h3 => ?_) (fun h3 => ?_)
 ·replace H := ift h3 H
  refine awp_seq ?_
  refine awp_plain hN rfl ?_
  refine seq_run0 (stp_move (.ptr _ _) rfl) ?_
  refine seq_run0 (stp_nilP rfl) ?_
  refine seq_run0 (stp_fldP tyF25_1 rfl) ?_
  refine seq_run1 (stp_load1 tyS3 rfl rfl) rfl ?_
  refine seq_run0 (stp_wrap _ rfl rfl (.inr (.inr ⟨rfl, rfl⟩))) ?_
  refine qd rfl ?_
  obtain ⟨r4, h5, H⟩ := bnd H
  refine seq_run0 (stp_call (k_gatemake_Below (wr ((wr (s1.at_ + 1)) * 7919)) n2 r4 h5) ⟨.inl rfl, .inl rfl, trivial⟩) ?_
  refine qe rfl ?_
  refine awp_ret ?_
  cases H
  exact ⟨trivial, ⟨.inl rfl, trivial⟩, rfl⟩
 ·replace H := iff_ h3 H
  refine awp_skip ?_
  refine awp_seq ?_
  refine awp_draw mixed hN rfl rfl ?_
  refine seq_run0 (stp_move (.ptr _ _) rfl) ?_
  refine seq_run0 (stp_nilP rfl) ?_
  refine seq_run0 (stp_fldP tyF25_1 rfl) ?_
  refine seq_run1 (stp_load1 tyS3 rfl rfl) rfl ?_
  refine seq_run0 (stp_wrap _ rfl rfl (.inr (.inl ⟨rfl, rfl⟩))) ?_
  refine seq_run0 (stp_move (.ptr _ _) rfl) ?_
  refine seq_run0 (stp_nilP rfl) ?_
  refine seq_run0 (stp_fldP tyF25_0 rfl) ?_
  refine seq_run1 (stp_load1 tyS22 rfl rfl) rfl ?_
  refine seq_run0 (t_len tyU22 rfl) ?_
  obtain ⟨h6, H⟩ := gif H
  refine seq_run0 (stp_remT rfl rfl h6) ?_
  refine qe rfl ?_
  refine ⟨rfl, ?_⟩
  refine awp_seq ?_
  refine awp_draw mixed hN rfl rfl ?_
  refine seq_run0 (stp_move (.ptr _ _) rfl) ?_
  refine seq_run0 (stp_nilP rfl) ?_
  refine seq_run0 (stp_fldP tyF25_1 rfl) ?_
  refine seq_run1 (stp_load1 tyS3 rfl rfl) rfl ?_
  refine seq_run0 (stp_wrap _ rfl rfl (.inr (.inl ⟨rfl, rfl⟩))) ?_
  refine seq_run0 (stp_move (.ptr _ _) rfl) ?_
  refine seq_run0 (stp_nilP rfl) ?_
  refine seq_run0 (stp_fldP tyF25_0 rfl) ?_
  refine seq_run1 (stp_load1 tyS22 rfl rfl) rfl ?_
  refine seq_run0 (t_len tyU22 rfl) ?_
  obtain ⟨h7, H⟩ := gif H
  refine seq_run0 (stp_quo rfl rfl h7.1 h7.2) ?_
  refine qe rfl ?_
  refine ⟨rfl, ?_⟩
  refine awp_seq ?_
  refine awp_plain hN rfl ?_
  refine seq_run0 (stp_move (.ptr _ _) rfl) ?_
  refine seq_run0 (stp_nilP rfl) ?_
  refine seq_run0 (stp_fldP tyF25_0 rfl) ?_
  refine seq_run1 (stp_load1 tyS22 rfl rfl) rfl ?_
  refine qd rfl ?_
  obtain ⟨x8, h9, H⟩ := bnd H
  refine seq_run0 (t_idxI tyE22 (fun _ => rfl) rfl rfl h9) ?_
  refine seq_run0 (stp_loadE1 tyS3 rfl (map_at (at_some h9).2) rfl) ?_
  obtain ⟨r10, h11, H⟩ := bnd H
  refine seq_run0 (stp_call (k_gatemake_Below x8 1073741824 r10 h11) ⟨.inl rfl, .inl rfl, trivial⟩) ?_
  refine qd rfl ?_
  refine qd rfl ?_
  refine seq_run0 (stp_wrap _ rfl rfl (.inl ⟨rfl, rfl⟩)) ?_
  refine seq_run0 (stp_wrap _ rfl rfl (.inr (.inr ⟨rfl, rfl⟩))) ?_
  refine seq_run0 (stp_wrap _ rfl rfl (.inl ⟨rfl, rfl⟩)) ?_
  refine qd rfl ?_
  obtain ⟨r12, h13, H⟩ := bnd H
  refine seq_run0 (stp_call (k_gatemake_Below (wr (r10 + (wr (((wr ((wr (s1.at_ + 1)) - 1)) / (s1.L.length : Int)) * (wr (7919 + (Int.tmod (wr ((wr (s1.at_ + 1)) - 1)) (s1.L.length : Int)))))))) n2 r12 h13) ⟨.inl rfl, .inl rfl, trivial⟩) ?_
  refine qe rfl ?_
  refine awp_ret ?_
  cases H
  exact ⟨trivial, ⟨.inl rfl, trivial⟩, rfl⟩
theorem k_gatemake_Stream_Flip (s1 : S_gatemake_Stream) (n2 : Int) (r : (Bool × S_gatemake_Stream)) (H : m_gatemake_Stream_Flip s1 n2 = some r) : Imp Try.prog 19 25 (C_gatemake_Stream s1) [vint n2] (resOf [vbool r.1]) (C_gatemake_Stream r.2) := by
 refine imp_of (us := [vbool r.1]) (cs' := (C_gatemake_Stream r.2)) (by kernel_rfl) Try.func19 rfl rfl rfl rfl fun X bl hN => ?_
 unfold m_gatemake_Stream_Flip at H
 refine awp_seq ?_
 refine awp_plain hN rfl ?_
 refine qe rfl ?_
 refine awp_seq ?_
 refine awp_plain hN rfl ?_
 refine seq_run0 (stp_move (.ptr _ _) rfl) ?_
 refine qd rfl ?_
 obtain ⟨r3, h4, H⟩ := bnd H
 refine seq_run2 (stp_imp (k_gatemake_Stream_Next s1 n2 r3 h4) rfl ⟨.inl rfl, trivial⟩ rfl) rfl ?_
 refine seq_run0 (stp_eql rfl rfl) ?_
 refine qe rfl ?_
 refine awp_ret ?_
 cases H
 exact ⟨trivial, ⟨.inl rfl, trivial⟩, rfl⟩
theorem k_gatemake_Stream_Pick (s1 : S_gatemake_Stream) (l2 : (List Int)) (r : (Int × S_gatemake_Stream)) (H : m_gatemake_Stream_Pick s1 l2 = some r) : Imp Try.prog 6 25 (C_gatemake_Stream s1) [vlst (List.map C_int l2)] (resOf [vint r.1]) (C_gatemake_Stream r.2) := by
 refine imp_of (us := [vint r.1]) (cs' := (C_gatemake_Stream r.2)) (by kernel_rfl) Try.func6 rfl rfl rfl rfl fun X bl hN => ?_
 unfold m_gatemake_Stream_Pick at H
 refine awp_seq ?_
 refine awp_plain hN rfl ?_
 refine qe rfl ?_
 refine awp_seq ?_
 refine awp_plain hN rfl ?_
 refine qd rfl ?_
 refine seq_run0 (stp_move (.ptr _ _) rfl) ?_
 refine qd rfl ?_
 refine seq_run0 (t_len tyU22 rfl) ?_
 obtain ⟨r3, h4, H⟩ := bnd H
 refine seq_run2 (stp_imp (k_gatemake_Stream_Next s1 (l2.length : Int) r3 h4) rfl ⟨.inl rfl, trivial⟩ rfl) rfl ?_
 obtain ⟨x5, h6, H⟩ := bnd H
 refine seq_run0 (t_idxI tyE22 (fun _ => rfl) rfl rfl h6) ?_
 refine seq_run0 (stp_loadE1 tyS3 rfl (map_at (at_some h6).2) rfl) ?_
 refine qe rfl ?_
 refine awp_ret ?_
 cases H
 exact ⟨trivial, ⟨.inl rfl, trivial⟩, rfl⟩
theorem k_gatemake_Stream_RightInstances (s1 : S_gatemake_Stream) (r : ((List S_api_Instance) × S_gatemake_Stream)) (H : m_gatemake_Stream_RightInstances s1 = some r) : Imp Try.prog 18 25 (C_gatemake_Stream s1) [] (resOf [vlst (List.map C_api_Instance r.1)]) (C_gatemake_Stream r.2) := by
 refine imp_of (us := [vlst (List.map C_api_Instance r.1)]) (cs' := (C_gatemake_Stream r.2)) (by kernel_rfl) Try.func18 rfl rfl rfl rfl fun X bl hN => ?_
 unfold m_gatemake_Stream_RightInstances at H
 refine awp_seq ?_
 refine awp_plain hN rfl ?_
 refine qe rfl ?_
 refine awp_seq ?_
 refine awp_plain hN rfl ?_
 refine qe rfl ?_
 refine awp_seq ?_
 refine awp_seq ?_
 refine awp_plain hN rfl ?_
 refine seq_run0 (stp_dat (u' := vlst (List.map C_string [[105, 97], [105, 98], [105, 99], [105, 100]])) (stp_lit [[_], [_], [_], [_]] tyL34 ⟨rfl, .inl ⟨_, rfl, rfl, rfl⟩, rfl, rfl, .inl ⟨_, rfl, rfl, rfl⟩, rfl, rfl, .inl ⟨_, rfl, rfl, rfl⟩, rfl, rfl, .inl ⟨_, rfl, rfl, rfl⟩, rfl, trivial⟩ rfl rfl) rfl) ?_
 refine seq_run0 (t_len tyU34 rfl) ?_
 refine qd rfl ?_
 refine awp_block ?_
 refine awp_nilrow 3 1 50 2 rfl rfl rfl ?_
 obtain ⟨h7, H⟩ := gif H
 refine awp_forL (fun (k5 : Nat) (s : (List Int) × Int × (List S_api_Instance)) => [(0, .ptr 0 0), (3, .row 1 s.2.2.length), (6, .dat (vlst (List.map C_string ([[105, 97], [105, 98], [105, 99], [105, 100]])))), (7, .dat (vint (([[105, 97], [105, 98], [105, 99], [105, 100]]).length : Int))), (8, .dat (vint (k5 : Int)))]) (fun (k5 : Nat) (s : (List Int) × Int × (List S_api_Instance)) => [(0, .box (some bl) 25 [.dat (vlst (List.map C_int s.1)), .dat (vint s.2.1)]), (1, .row 50 2 (List.map C_api_Instance s.2.2))]) (s1.L, s1.at_, []) H ⟨rfl, rfl, rfl, rfl, rfl, trivial⟩ ⟨rfl, rfl, trivial⟩ (fun _ _ => rfl) ?_ ?_
 ·rintro ⟨c2, c3, l4⟩ H
  replace H : gatemake_Stream_RightInstances_E1 c2 c3 l4 = some r := H
  unfold gatemake_Stream_RightInstances_E1 at H
  refine awp_seq ?_
  refine awp_plain hN rfl ?_
  refine seq_run0 (stp_lss rfl rfl) ?_
  refine awp_seq ?_
  refine awp_cond _ rfl (fun h => (lt_t h).elim) (fun h => ?_)
  refine awp_exit ?_
  refine awp_seq ?_
  refine awp_plain hN rfl ?_
  refine seq_run0 (stp_move (.row _ _) rfl) ?_
  refine seq_run0 (stp_assign (.row _ _) rfl) ?_
  refine awp_ret ?_
  cases H
  exact ⟨trivial, ⟨t_slotv rfl rfl, trivial⟩, rfl⟩
 ·rintro k5 x8 ⟨c2, c3, l4⟩ q6 h9 h10 H hq6
  replace H : gatemake_Stream_RightInstances_L1 k5 x8 c2 c3 l4 = some q6 := H
  unfold gatemake_Stream_RightInstances_L1 at H
  refine awp_seq ?_
  refine awp_plain hN rfl ?_
  refine seq_run0 (stp_lss rfl rfl) ?_
  refine awp_seq ?_
  refine awp_cond _ rfl (fun h => ?_) (fun h => (lt_f h9 h).elim)
  refine awp_skip ?_
  refine awp_joinE (ι := (List S_api_Instance) × (List Int) × Int) (fun i => [(0, .ptr 0 0), (3, .row 1 i.1.length), (6, .dat (vlst (List.map C_string ([[105, 97], [105, 98], [105, 99], [105, 100]])))), (7, .dat (vint (([[105, 97], [105, 98], [105, 99], [105, 100]]).length : Int))), (8, .dat (vint (k5 : Int)))]) (fun i => [(0, .box (some bl) 25 [.dat (vlst (List.map C_int i.2.1)), .dat (vint i.2.2)]), (1, .row 50 2 (List.map C_api_Instance i.1))]) (fun i => gatemake_Stream_RightInstances_J2 i.1 i.2.1 i.2.2 = some q6) (fun i => rfl) ?_ ?_
  ·skip
   refine awp_block ?_
   refine awp_seq ?_
   refine awp_plain hN rfl ?_
   refine seq_run0 (t_idx tyE34 (fun _ => rfl) rfl rfl h10) ?_
   refine seq_run0 (stp_loadE1 tyS9 rfl (map_at h10) rfl) ?_
   refine qe rfl ?_
   refine awp_joinE (ι := Bool × (List Int) × Int) (fun i => [(0, .ptr 0 0), (3, .row 1 l4.length), (5, .dat (vstr x8)), (6, .dat (vlst (List.map C_string ([[105, 97], [105, 98], [105, 99], [105, 100]])))), (7, .dat (vint (([[105, 97], [105, 98], [105, 99], [105, 100]]).length : Int))), (8, .dat (vint (k5 : Int))), (23, .dat (vbool i.1))]) (fun i => [(0, .box (some bl) 25 [.dat (vlst (List.map C_int i.2.1)), .dat (vint i.2.2)]), (1, .row 50 2 (List.map C_api_Instance l4))]) (fun i => gatemake_Stream_RightInstances_J3 l4 x8 i.1 i.2.1 i.2.2 = some q6) (fun i => rfl) ?_ ?_
   ·skip
    refine awp_plain hN rfl ?_
    refine seq_run0 (stp_move (.row _ _) rfl) ?_
    refine seq_run1 (t_lenR tyU26 rfl rfl) rfl ?_
    refine seq_run0 (stp_eql rfl rfl) ?_
    refine qd rfl ?_
    refine seq_split (j := 3) rfl rfl (fun h11 => ?_) (fun h11 => ?_) rfl
    ·have h12 := un1 h11
     replace H := ift h12 H
     refine seq_g0 rfl rfl h11 (stp_move (.dat _) rfl) ?_
     refine seq_g0 rfl rfl h11 (stp_seql rfl rfl) ?_
     refine seq_run0 (stp_pick_t rfl (bTT h12) rfl) ?_
     refine qd rfl ?_
     refine seq_split (j := 7) rfl rfl (fun h13 => ?_) (fun h13 => ?_) rfl
     ·have h14 := un3 h13
      replace H := iff_ h14 H
      refine seq_g0 rfl rfl h13 (stp_move (.ptr _ _) rfl) ?_
      obtain ⟨r15, h16, H⟩ := bnd H
      refine seq_g2 rfl rfl h13 (stp_imp (k_gatemake_Stream_Flip (S_gatemake_Stream.mk c2 c3) 4 r15 h16) rfl ⟨.inl rfl, trivial⟩ rfl) rfl ?_
      refine seq_g0 rfl rfl h13 (stp_not rfl) ?_
      refine seq_run0 (stp_pick_f rfl (bFF h14) rfl) ?_
      exact ⟨(!r15.1, r15.2.L, r15.2.at_), H, ⟨rfl, rfl, rfl, rfl, rfl, rfl, rfl, trivial⟩, ⟨rfl, rfl, trivial⟩⟩
     ·have h17 := un4 h13
      replace H := ift h17 H
      refine seq_skip rfl rfl h13 ?_
      refine seq_skip rfl rfl h13 ?_
      refine seq_skip rfl rfl h13 ?_
      refine seq_run0 (stp_pick_t rfl (bTT h17) rfl) ?_
      exact ⟨(true, c2, c3), H, ⟨rfl, rfl, rfl, rfl, rfl, rfl, rfl, trivial⟩, ⟨rfl, rfl, trivial⟩⟩
    ·have h18 := un2 h11
     replace H := iff_ h18 H
     refine seq_skip rfl rfl h11 ?_
     refine seq_skip rfl rfl h11 ?_
     refine seq_run0 (stp_pick_f rfl (bFF h18) rfl) ?_
     refine qd rfl ?_
     refine seq_g0 rfl rfl rfl (stp_move (.ptr _ _) rfl) ?_
     obtain ⟨r19, h20, H⟩ := bnd H
     refine seq_g2 rfl rfl rfl (stp_imp (k_gatemake_Stream_Flip (S_gatemake_Stream.mk c2 c3) 4 r19 h20) rfl ⟨.inl rfl, trivial⟩ rfl) rfl ?_
     refine seq_g0 rfl rfl rfl (stp_not rfl) ?_
     refine seq_run0 (stp_pick_f rfl rfl rfl) ?_
     exact ⟨(!r19.1, r19.2.L, r19.2.at_), H, ⟨rfl, rfl, rfl, rfl, rfl, rfl, rfl, trivial⟩, ⟨rfl, rfl, trivial⟩⟩
   ·rintro ⟨v21, c22, c23⟩ H
    replace H : gatemake_Stream_RightInstances_J3 l4 x8 v21 c22 c23 = some q6 := H
    unfold gatemake_Stream_RightInstances_J3 at H
    refine awp_cond _ rfl (fun h24 => ?_) (fun h24 => ?_)
    ·replace H := ift h24 H
     refine awp_plain hN rfl ?_
     refine seq_run0 (stp_move (.row _ _) rfl) ?_
     refine qd rfl ?_
     refine seq_run0 (stp_move (.ptr _ _) rfl) ?_
     refine seq_run0 (stp_dat (u' := vlst (List.map C_int [1, 1, 2, 3, 5])) (stp_lit [[_], [_], [_], [_], [_]] tyL22 ⟨rfl, .inl ⟨_, rfl, rfl, rfl⟩, rfl, rfl, .inl ⟨_, rfl, rfl, rfl⟩, rfl, rfl, .inl ⟨_, rfl, rfl, rfl⟩, rfl, rfl, .inl ⟨_, rfl, rfl, rfl⟩, rfl, rfl, .inl ⟨_, rfl, rfl, rfl⟩, rfl, trivial⟩ rfl rfl) rfl) ?_
     obtain ⟨r25, h26, H⟩ := bnd H
     refine seq_run2 (stp_imp (k_gatemake_Stream_Pick (S_gatemake_Stream.mk c22 c23) [1, 1, 2, 3, 5] r25 h26) rfl ⟨.inl rfl, trivial⟩ rfl) rfl ?_
     refine seq_run0 (stp_dat (u' := vagg (C_api_Instance (S_api_Instance.mk x8 r25.1))) (stp_build [(0, [vstr x8]), (1, [vint r25.1])] tyZ50 tyP50 rfl ⟨rfl, .inl ⟨_, rfl, rfl, rfl⟩, rfl, rfl, .inl ⟨_, rfl, rfl, rfl⟩, rfl, trivial⟩) rfl) ?_
     refine seq_run0 (stp_dat (u' := vlst (List.map C_api_Instance [(S_api_Instance.mk x8 r25.1)])) (stp_lit [_] tyL26 ⟨rfl, .inr rfl, rfl, trivial⟩ rfl rfl) rfl) ?_
     obtain ⟨h27, H⟩ := gif H
     refine seq_run2 (t_app tyL26 (fun _ => rfl) rfl rfl rfl ⟨by simp, by first | (simp; done) | simpa using h27⟩ rfl) rfl ?_
     refine seq_run0 (stp_assign (.row _ _) rfl) ?_
     exact ⟨((l4 ++ [(S_api_Instance.mk x8 r25.1)]), r25.2.L, r25.2.at_), H, ⟨rfl, rfl, rfl, rfl, rfl, trivial⟩, ⟨rfl, rfl, trivial⟩⟩
    ·replace H := iff_ h24 H
     refine awp_skip ?_
     exact ⟨(l4, c22, c23), H, ⟨rfl, rfl, rfl, rfl, rfl, trivial⟩, ⟨rfl, rfl, trivial⟩⟩
  ·rintro ⟨out28, c29, c30⟩ H
   replace H : gatemake_Stream_RightInstances_J2 out28 c29 c30 = some q6 := H
   unfold gatemake_Stream_RightInstances_J2 at H
   refine awp_plain hN rfl ?_
   refine seq_run0 (stp_add rfl rfl (by omega)) ?_
   refine qd rfl ?_
   exact ⟨_, backl H, ⟨rfl, rfl, rfl, rfl, rfl, trivial⟩, ⟨rfl, rfl, trivial⟩⟩
theorem k_gatemake_Stream_Some (s1 : S_gatemake_Stream) (l2 : (List Bs)) (r : (Bs × S_gatemake_Stream)) (H : m_gatemake_Stream_Some s1 l2 = some r) : Imp Try.prog 21 25 (C_gatemake_Stream s1) [vlst (List.map C_string l2)] (resOf [vstr r.1]) (C_gatemake_Stream r.2) := by
 refine imp_of (us := [vstr r.1]) (cs' := (C_gatemake_Stream r.2)) (by kernel_rfl) Try.func21 rfl rfl rfl rfl fun X bl hN => ?_
 unfold m_gatemake_Stream_Some at H
 refine awp_seq ?_
 refine awp_plain hN rfl ?_
 refine qe rfl ?_
 refine awp_seq ?_
 refine awp_plain hN rfl ?_
 refine qd rfl ?_
 refine seq_run0 (stp_move (.ptr _ _) rfl) ?_
 refine qd rfl ?_
 refine seq_run0 (t_len tyU34 rfl) ?_
 obtain ⟨r3, h4, H⟩ := bnd H
 refine seq_run2 (stp_imp (k_gatemake_Stream_Next s1 (l2.length : Int) r3 h4) rfl ⟨.inl rfl, trivial⟩ rfl) rfl ?_
 obtain ⟨x5, h6, H⟩ := bnd H
 refine seq_run0 (t_idxI tyE34 (fun _ => rfl) rfl rfl h6) ?_
 refine seq_run0 (stp_loadE1 tyS9 rfl (map_at (at_some h6).2) rfl) ?_
 refine qe rfl ?_
 refine awp_ret ?_
 cases H
 exact ⟨trivial, ⟨.inl rfl, trivial⟩, rfl⟩
theorem k_gatemake_Stream_Range (s1 : S_gatemake_Stream) (low2 : Int) (high3 : Int) (r : (Int × S_gatemake_Stream)) (H : m_gatemake_Stream_Range s1 low2 high3 = some r) : Imp Try.prog 24 25 (C_gatemake_Stream s1) [vint low2, vint high3] (resOf [vint r.1]) (C_gatemake_Stream r.2) := by
 refine imp_of (us := [vint r.1]) (cs' := (C_gatemake_Stream r.2)) (by kernel_rfl) Try.func24 rfl rfl rfl rfl fun X bl hN => ?_
 unfold m_gatemake_Stream_Range at H
 refine awp_seq ?_
 refine awp_plain hN rfl ?_
 refine qe rfl ?_
 refine awp_seq ?_
 refine awp_seq ?_
 refine awp_plain hN rfl ?_
 refine qd rfl ?_
 refine qd rfl ?_
 refine seq_run0 (stp_lss rfl rfl) ?_
 refine awp_cond _ rfl (fun h4 => ?_) (fun h4 => ?_)
 ·replace H := ift h4 H
  refine awp_seq ?_
  refine awp_plain hN rfl ?_
  refine qd rfl ?_
  refine qe rfl ?_
  refine awp_ret ?_
  cases H
  exact ⟨trivial, ⟨.inl rfl, trivial⟩, rfl⟩
 ·replace H := iff_ h4 H
  refine awp_skip ?_
  refine awp_seq ?_
  refine awp_plain hN rfl ?_
  refine qd rfl ?_
  refine seq_run0 (stp_move (.ptr _ _) rfl) ?_
  refine qd rfl ?_
  refine qd rfl ?_
  refine seq_run0 (stp_wrap _ rfl rfl (.inr (.inl ⟨rfl, rfl⟩))) ?_
  refine seq_run0 (stp_wrap _ rfl rfl (.inl ⟨rfl, rfl⟩)) ?_
  obtain ⟨r5, h6, H⟩ := bnd H
  refine seq_run2 (stp_imp (k_gatemake_Stream_Next s1 (wr ((wr (high3 - low2)) + 1)) r5 h6) rfl ⟨.inl rfl, trivial⟩ rfl) rfl ?_
  refine seq_run0 (stp_wrap _ rfl rfl (.inl ⟨rfl, rfl⟩)) ?_
  refine qe rfl ?_
  refine awp_ret ?_
  cases H
  exact ⟨trivial, ⟨.inl rfl, trivial⟩, rfl⟩
theorem k_gatemake_Stream_Odd (s1 : S_gatemake_Stream) (low2 : Int) (high3 : Int) (r : (Int × S_gatemake_Stream)) (H : m_gatemake_Stream_Odd s1 low2 high3 = some r) : Imp Try.prog 22 25 (C_gatemake_Stream s1) [vint low2, vint high3] (resOf [vint r.1]) (C_gatemake_Stream r.2) := by
 refine imp_of (us := [vint r.1]) (cs' := (C_gatemake_Stream r.2)) (by kernel_rfl) Try.func22 rfl rfl rfl rfl fun X bl hN => ?_
 unfold m_gatemake_Stream_Odd at H
 refine awp_seq ?_
 refine awp_plain hN rfl ?_
 refine qe rfl ?_
 refine awp_seq ?_
 refine awp_seq ?_
 refine awp_plain hN rfl ?_
 refine seq_run0 (stp_move (.ptr _ _) rfl) ?_
 obtain ⟨r4, h5, H⟩ := bnd H
 refine seq_run2 (stp_imp (k_gatemake_Stream_Flip s1 12 r4 h5) rfl ⟨.inl rfl, trivial⟩ rfl) rfl ?_
 refine awp_cond _ rfl (fun h6 => ?_) (fun h6 => ?_)
 ·replace H := ift h6 H
  refine awp_seq ?_
  refine awp_plain hN rfl ?_
  refine seq_run0 (stp_move (.ptr _ _) rfl) ?_
  refine qd rfl ?_
  refine seq_run0 (stp_wrap _ rfl rfl (.inr (.inl ⟨rfl, rfl⟩))) ?_
  refine qd rfl ?_
  refine seq_run0 (stp_wrap _ rfl rfl (.inl ⟨rfl, rfl⟩)) ?_
  refine qd rfl ?_
  refine qd rfl ?_
  refine seq_run0 (stp_dat (u' := vlst (List.map C_int [wr (low2 - 1), wr (high3 + 1), low2, high3, (-1099511627776), 1099511627776])) (stp_lit [[_], [_], [_], [_], [_], [_]] tyL22 ⟨rfl, .inl ⟨_, rfl, rfl, rfl⟩, rfl, rfl, .inl ⟨_, rfl, rfl, rfl⟩, rfl, rfl, .inl ⟨_, rfl, rfl, rfl⟩, rfl, rfl, .inl ⟨_, rfl, rfl, rfl⟩, rfl, rfl, .inl ⟨_, rfl, rfl, rfl⟩, rfl, rfl, .inl ⟨_, rfl, rfl, rfl⟩, rfl, trivial⟩ rfl rfl) rfl) ?_
  obtain ⟨r7, h8, H⟩ := bnd H
  refine seq_run2 (stp_imp (k_gatemake_Stream_Pick r4.2 [wr (low2 - 1), wr (high3 + 1), low2, high3, (-1099511627776), 1099511627776] r7 h8) rfl ⟨.inl rfl, trivial⟩ rfl) rfl ?_
  refine qe rfl ?_
  refine awp_ret ?_
  cases H
  exact ⟨trivial, ⟨.inl rfl, trivial⟩, rfl⟩
 ·replace H := iff_ h6 H
  refine awp_skip ?_
  refine awp_seq ?_
  refine awp_plain hN rfl ?_
  refine seq_run0 (stp_move (.ptr _ _) rfl) ?_
  refine qd rfl ?_
  refine qd rfl ?_
  obtain ⟨r9, h10, H⟩ := bnd H
  refine seq_run2 (stp_imp (k_gatemake_Stream_Range r4.2 low2 high3 r9 h10) rfl ⟨.inl rfl, .inl rfl, trivial⟩ rfl) rfl ?_
  refine qe rfl ?_
  refine awp_ret ?_
  cases H
  exact ⟨trivial, ⟨.inl rfl, trivial⟩, rfl⟩
theorem kr_gatemake_Stream_RightInstances (s1 : S_gatemake_Stream) (r : ((List S_api_Instance) × S_gatemake_Stream)) (H : m_gatemake_Stream_RightInstances s1 = some r) : FnG Try.prog 18 [.ptr 0 0] [(0, .box (some 0) 25 (List.map .dat (C_gatemake_Stream s1)))] (.row 1 r.1.length) [(0, .box (some 0) 25 (List.map .dat (C_gatemake_Stream r.2))), (1, .row 50 2 (List.map C_api_Instance r.1))] := by
 refine fnG_of (by kernel_rfl) Try.func18 rfl rfl rfl rfl fun X A hN => ?_
 unfold m_gatemake_Stream_RightInstances at H
 refine awp_seq ?_
 refine awp_plain hN rfl ?_
 refine qe rfl ?_
 refine awp_seq ?_
 refine awp_plain hN rfl ?_
 refine qe rfl ?_
 refine awp_seq ?_
 refine awp_seq ?_
 refine awp_plain hN rfl ?_
 refine seq_run0 (stp_dat (u' := vlst (List.map C_string [[105, 97], [105, 98], [105, 99], [105, 100]])) (stp_lit [[_], [_], [_], [_]] tyL34 ⟨rfl, .inl ⟨_, rfl, rfl, rfl⟩, rfl, rfl, .inl ⟨_, rfl, rfl, rfl⟩, rfl, rfl, .inl ⟨_, rfl, rfl, rfl⟩, rfl, rfl, .inl ⟨_, rfl, rfl, rfl⟩, rfl, trivial⟩ rfl rfl) rfl) ?_
 refine seq_run0 (t_len tyU34 rfl) ?_
 refine qd rfl ?_
 refine awp_block ?_
 refine awp_nilrow 3 1 50 2 rfl rfl rfl ?_
 obtain ⟨h7, H⟩ := gif H
 refine awp_forL (fun (k5 : Nat) (s : (List Int) × Int × (List S_api_Instance)) => [(0, .ptr 0 0), (3, .row 1 s.2.2.length), (6, .dat (vlst (List.map C_string ([[105, 97], [105, 98], [105, 99], [105, 100]])))), (7, .dat (vint (([[105, 97], [105, 98], [105, 99], [105, 100]]).length : Int))), (8, .dat (vint (k5 : Int)))]) (fun (k5 : Nat) (s : (List Int) × Int × (List S_api_Instance)) => [(0, .box (some (A.bl 0)) 25 [.dat (vlst (List.map C_int s.1)), .dat (vint s.2.1)]), (1, .row 50 2 (List.map C_api_Instance s.2.2))]) (s1.L, s1.at_, []) H ⟨rfl, rfl, rfl, rfl, rfl, trivial⟩ ⟨rfl, rfl, trivial⟩ (fun _ _ => rfl) ?_ ?_
 ·rintro ⟨c2, c3, l4⟩ H
  replace H : gatemake_Stream_RightInstances_E1 c2 c3 l4 = some r := H
  unfold gatemake_Stream_RightInstances_E1 at H
  refine awp_seq ?_
  refine awp_plain hN rfl ?_
  refine seq_run0 (stp_lss rfl rfl) ?_
  refine awp_seq ?_
  refine awp_cond _ rfl (fun h => (lt_t h).elim) (fun h => ?_)
  refine awp_exit ?_
  refine awp_seq ?_
  refine awp_plain hN rfl ?_
  refine seq_run0 (stp_move (.row _ _) rfl) ?_
  refine seq_run0 (stp_assign (.row _ _) rfl) ?_
  refine awp_ret ?_
  cases H
  exact ⟨trivial, [(2, .row 1 _)], ⟨rfl, trivial⟩, ⟨rfl, rfl, trivial⟩, rfl, .inr (.inl ⟨2, rfl, rfl⟩)⟩
 ·rintro k5 x8 ⟨c2, c3, l4⟩ q6 h9 h10 H hq6
  replace H : gatemake_Stream_RightInstances_L1 k5 x8 c2 c3 l4 = some q6 := H
  unfold gatemake_Stream_RightInstances_L1 at H
  refine awp_seq ?_
  refine awp_plain hN rfl ?_
  refine seq_run0 (stp_lss rfl rfl) ?_
  refine awp_seq ?_
  refine awp_cond _ rfl (fun h => ?_) (fun h => (lt_f h9 h).elim)
  refine awp_skip ?_
  refine awp_joinE (ι := (List S_api_Instance) × (List Int) × Int) (fun i => [(0, .ptr 0 0), (3, .row 1 i.1.length), (6, .dat (vlst (List.map C_string ([[105, 97], [105, 98], [105, 99], [105, 100]])))), (7, .dat (vint (([[105, 97], [105, 98], [105, 99], [105, 100]]).length : Int))), (8, .dat (vint (k5 : Int)))]) (fun i => [(0, .box (some (A.bl 0)) 25 [.dat (vlst (List.map C_int i.2.1)), .dat (vint i.2.2)]), (1, .row 50 2 (List.map C_api_Instance i.1))]) (fun i => gatemake_Stream_RightInstances_J2 i.1 i.2.1 i.2.2 = some q6) (fun i => rfl) ?_ ?_
  ·skip
   refine awp_block ?_
   refine awp_seq ?_
   refine awp_plain hN rfl ?_
   refine seq_run0 (t_idx tyE34 (fun _ => rfl) rfl rfl h10) ?_
   refine seq_run0 (stp_loadE1 tyS9 rfl (map_at h10) rfl) ?_
   refine qe rfl ?_
   refine awp_joinE (ι := Bool × (List Int) × Int) (fun i => [(0, .ptr 0 0), (3, .row 1 l4.length), (5, .dat (vstr x8)), (6, .dat (vlst (List.map C_string ([[105, 97], [105, 98], [105, 99], [105, 100]])))), (7, .dat (vint (([[105, 97], [105, 98], [105, 99], [105, 100]]).length : Int))), (8, .dat (vint (k5 : Int))), (23, .dat (vbool i.1))]) (fun i => [(0, .box (some (A.bl 0)) 25 [.dat (vlst (List.map C_int i.2.1)), .dat (vint i.2.2)]), (1, .row 50 2 (List.map C_api_Instance l4))]) (fun i => gatemake_Stream_RightInstances_J3 l4 x8 i.1 i.2.1 i.2.2 = some q6) (fun i => rfl) ?_ ?_
   ·skip
    refine awp_plain hN rfl ?_
    refine seq_run0 (stp_move (.row _ _) rfl) ?_
    refine seq_run1 (t_lenR tyU26 rfl rfl) rfl ?_
    refine seq_run0 (stp_eql rfl rfl) ?_
    refine qd rfl ?_
    refine seq_split (j := 3) rfl rfl (fun h11 => ?_) (fun h11 => ?_) rfl
    ·have h12 := un1 h11
     replace H := ift h12 H
     refine seq_g0 rfl rfl h11 (stp_move (.dat _) rfl) ?_
     refine seq_g0 rfl rfl h11 (stp_seql rfl rfl) ?_
     refine seq_run0 (stp_pick_t rfl (bTT h12) rfl) ?_
     refine qd rfl ?_
     refine seq_split (j := 7) rfl rfl (fun h13 => ?_) (fun h13 => ?_) rfl
     ·have h14 := un3 h13
      replace H := iff_ h14 H
      refine seq_g0 rfl rfl h13 (stp_move (.ptr _ _) rfl) ?_
      obtain ⟨r15, h16, H⟩ := bnd H
      refine seq_g2 rfl rfl h13 (stp_imp (k_gatemake_Stream_Flip (S_gatemake_Stream.mk c2 c3) 4 r15 h16) rfl ⟨.inl rfl, trivial⟩ rfl) rfl ?_
      refine seq_g0 rfl rfl h13 (stp_not rfl) ?_
      refine seq_run0 (stp_pick_f rfl (bFF h14) rfl) ?_
      exact ⟨(!r15.1, r15.2.L, r15.2.at_), H, ⟨rfl, rfl, rfl, rfl, rfl, rfl, rfl, trivial⟩, ⟨rfl, rfl, trivial⟩⟩
     ·have h17 := un4 h13
      replace H := ift h17 H
      refine seq_skip rfl rfl h13 ?_
      refine seq_skip rfl rfl h13 ?_
      refine seq_skip rfl rfl h13 ?_
      refine seq_run0 (stp_pick_t rfl (bTT h17) rfl) ?_
      exact ⟨(true, c2, c3), H, ⟨rfl, rfl, rfl, rfl, rfl, rfl, rfl, trivial⟩, ⟨rfl, rfl, trivial⟩⟩
    ·have h18 := un2 h11
     replace H := iff_ h18 H
     refine seq_skip rfl rfl h11 ?_
     refine seq_skip rfl rfl h11 ?_
     refine seq_run0 (stp_pick_f rfl (bFF h18) rfl) ?_
     refine qd rfl ?_
     refine seq_g0 rfl rfl rfl (stp_move (.ptr _ _) rfl) ?_
     obtain ⟨r19, h20, H⟩ := bnd H
     refine seq_g2 rfl rfl rfl (stp_imp (k_gatemake_Stream_Flip (S_gatemake_Stream.mk c2 c3) 4 r19 h20) rfl ⟨.inl rfl, trivial⟩ rfl) rfl ?_
     refine seq_g0 rfl rfl rfl (stp_not rfl) ?_
     refine seq_run0 (stp_pick_f rfl rfl rfl) ?_
     exact ⟨(!r19.1, r19.2.L, r19.2.at_), H, ⟨rfl, rfl, rfl, rfl, rfl, rfl, rfl, trivial⟩, ⟨rfl, rfl, trivial⟩⟩
   ·rintro ⟨v21, c22, c23⟩ H
    replace H : gatemake_Stream_RightInstances_J3 l4 x8 v21 c22 c23 = some q6 := H
    unfold gatemake_Stream_RightInstances_J3 at H
    refine awp_cond _ rfl (fun h24 => ?_) (fun h24 => ?_)
    ·replace H := ift h24 H
     refine awp_plain hN rfl ?_
     refine seq_run0 (stp_move (.row _ _) rfl) ?_
     refine qd rfl ?_
     refine seq_run0 (stp_move (.ptr _ _) rfl) ?_
     refine seq_run0 (stp_dat (u' := vlst (List.map C_int [1, 1, 2, 3, 5])) (stp_lit [[_], [_], [_], [_], [_]] tyL22 ⟨rfl, .inl ⟨_, rfl, rfl, rfl⟩, rfl, rfl, .inl ⟨_, rfl, rfl, rfl⟩, rfl, rfl, .inl ⟨_, rfl, rfl, rfl⟩, rfl, rfl, .inl ⟨_, rfl, rfl, rfl⟩, rfl, rfl, .inl ⟨_, rfl, rfl, rfl⟩, rfl, trivial⟩ rfl rfl) rfl) ?_
     obtain ⟨r25, h26, H⟩ := bnd H
     refine seq_run2 (stp_imp (k_gatemake_Stream_Pick (S_gatemake_Stream.mk c22 c23) [1, 1, 2, 3, 5] r25 h26) rfl ⟨.inl rfl, trivial⟩ rfl) rfl ?_
     refine seq_run0 (stp_dat (u' := vagg (C_api_Instance (S_api_Instance.mk x8 r25.1))) (stp_build [(0, [vstr x8]), (1, [vint r25.1])] tyZ50 tyP50 rfl ⟨rfl, .inl ⟨_, rfl, rfl, rfl⟩, rfl, rfl, .inl ⟨_, rfl, rfl, rfl⟩, rfl, trivial⟩) rfl) ?_
     refine seq_run0 (stp_dat (u' := vlst (List.map C_api_Instance [(S_api_Instance.mk x8 r25.1)])) (stp_lit [_] tyL26 ⟨rfl, .inr rfl, rfl, trivial⟩ rfl rfl) rfl) ?_
     obtain ⟨h27, H⟩ := gif H
     refine seq_run2 (t_app tyL26 (fun _ => rfl) rfl rfl rfl ⟨by simp, by first | (simp; done) | simpa using h27⟩ rfl) rfl ?_
     refine seq_run0 (stp_assign (.row _ _) rfl) ?_
     exact ⟨((l4 ++ [(S_api_Instance.mk x8 r25.1)]), r25.2.L, r25.2.at_), H, ⟨rfl, rfl, rfl, rfl, rfl, trivial⟩, ⟨rfl, rfl, trivial⟩⟩
    ·replace H := iff_ h24 H
     refine awp_skip ?_
     exact ⟨(l4, c22, c23), H, ⟨rfl, rfl, rfl, rfl, rfl, trivial⟩, ⟨rfl, rfl, trivial⟩⟩
  ·rintro ⟨out28, c29, c30⟩ H
   replace H : gatemake_Stream_RightInstances_J2 out28 c29 c30 = some q6 := H
   unfold gatemake_Stream_RightInstances_J2 at H
   refine awp_plain hN rfl ?_
   refine seq_run0 (stp_add rfl rfl (by omega)) ?_
   refine qd rfl ?_
   exact ⟨_, backl H, ⟨rfl, rfl, rfl, rfl, rfl, trivial⟩, ⟨rfl, rfl, trivial⟩⟩
theorem k_gatemake_Stream_Instances (s1 : S_gatemake_Stream) (r : ((List S_api_Instance) × S_gatemake_Stream)) (H : m_gatemake_Stream_Instances s1 = some r) : Imp Try.prog 4 25 (C_gatemake_Stream s1) [] (resOf [vlst (List.map C_api_Instance r.1)]) (C_gatemake_Stream r.2) := by
 refine imp_of (us := [vlst (List.map C_api_Instance r.1)]) (cs' := (C_gatemake_Stream r.2)) (by kernel_rfl) Try.func4 rfl rfl rfl rfl fun X bl hN => ?_
 unfold m_gatemake_Stream_Instances at H
 refine awp_seq ?_
 refine awp_plain hN rfl ?_
 refine qe rfl ?_
 refine awp_seq ?_
 refine awp_plain hN rfl ?_
 refine seq_run0 (stp_move (.ptr _ _) rfl) ?_
 obtain ⟨r2, h3, H⟩ := bnd H
 refine seq_callG (rn [(0, 0), (1, 1)]) [(0, _, _, some _)] [(1, _)] (kr_gatemake_Stream_RightInstances s1 r2 h3) ⟨rfl, rfl, trivial⟩ ⟨.inl (.inl rfl), trivial⟩ ⟨⟨⟨rfl, rfl⟩, trivial⟩, trivial⟩ rfl ?_
 refine seq_run0 (stp_assign (.row _ _) rfl) ?_
 refine awp_joinE (ι := (List S_api_Instance) × (List Int) × Int) (fun i => [(0, .ptr 0 0), (3, .row 1 i.1.length)]) (fun i => [(0, .box (some bl) 25 [.dat (vlst (List.map C_int i.2.1)), .dat (vint i.2.2)]), (1, .row 50 2 (List.map C_api_Instance i.1))]) (fun i => gatemake_Stream_Instances_J1 i.1 i.2.1 i.2.2 = some r) (fun i => rfl) ?_ ?_
 ·skip
  refine awp_seq ?_
  refine awp_plain hN rfl ?_
  refine seq_run0 (stp_move (.ptr _ _) rfl) ?_
  obtain ⟨r4, h5, H⟩ := bnd H
  refine seq_run2 (stp_imp (k_gatemake_Stream_Flip r2.2 15 r4 h5) rfl ⟨.inl rfl, trivial⟩ rfl) rfl ?_
  refine awp_cond _ rfl (fun h6 => ?_) (fun h6 => ?_)
  ·replace H := ift h6 H
   refine awp_seq ?_
   refine awp_plain hN rfl ?_
   refine seq_run0 (stp_move (.row _ _) rfl) ?_
   refine seq_run0 (stp_move (.ptr _ _) rfl) ?_
   refine seq_run0 (stp_move (.row _ _) rfl) ?_
   refine seq_run1 (t_lenR tyU26 rfl rfl) rfl ?_
   obtain ⟨r7, h8, H⟩ := bnd H
   refine seq_run2 (stp_imp (k_gatemake_Stream_Next r4.2 (r2.1.length : Int) r7 h8) rfl ⟨.inl rfl, trivial⟩ rfl) rfl ?_
   obtain ⟨x9, h10, H⟩ := bnd H
   refine seq_run1 (t_idxRI tyE26 rfl rfl rfl h10) rfl ?_
   refine seq_run0 (stp_assign (.rptr _ _ _ _ _) rfl) ?_
   refine awp_plain hN rfl ?_
   refine seq_run0 (stp_move (.rptr _ _ _ _ _) rfl) ?_
   refine seq_run0 (stp_move (.rptr _ _ _ _ _) rfl) ?_
   refine seq_run0 (stp_move (.ptr _ _) rfl) ?_
   refine seq_run0 (stp_move (.rptr _ _ _ _ _) rfl) ?_
   refine seq_run0 (stp_nilR rfl) ?_
   refine seq_run0 (stp_fldR tyF50_0 rfl) ?_
   refine seq_run1 (t_loadR1 tyS9 rfl rfl (at_some h10).2 rfl) rfl ?_
   refine seq_run0 (stp_dat (u' := vlst (List.map C_string [x9.Key, [], [65], [105, 97]])) (stp_lit [[_], [_], [_], [_]] tyL34 ⟨rfl, .inl ⟨_, rfl, rfl, rfl⟩, rfl, rfl, .inl ⟨_, rfl, rfl, rfl⟩, rfl, rfl, .inl ⟨_, rfl, rfl, rfl⟩, rfl, rfl, .inl ⟨_, rfl, rfl, rfl⟩, rfl, trivial⟩ rfl rfl) rfl) ?_
   obtain ⟨r11, h12, H⟩ := bnd H
   refine seq_run2 (stp_imp (k_gatemake_Stream_Some r7.2 ([x9.Key, [], [65], [105, 97]]) r11 h12) rfl ⟨.inl rfl, trivial⟩ rfl) rfl ?_
   refine seq_run0 (stp_move (.ptr _ _) rfl) ?_
   obtain ⟨r13, h14, H⟩ := bnd H
   refine seq_run2 (stp_imp (k_gatemake_Stream_Odd r11.2 1 100 r13 h14) rfl ⟨.inl rfl, .inl rfl, trivial⟩ rfl) rfl ?_
   refine seq_run0 (stp_nilR rfl) ?_
   refine seq_run0 (stp_fldR tyF50_0 rfl) ?_
   refine seq_run2 (t_storeR (S_api_Instance.mk r11.1 x9.Weight) tyS9 rfl rfl rfl rfl (at_some h10).2 rfl rfl) rfl ?_
   refine seq_run0 (stp_nilR rfl) ?_
   refine seq_run0 (stp_fldR tyF50_1 rfl) ?_
   refine seq_run2 (t_storeR (S_api_Instance.mk r11.1 r13.1) tyS3 rfl rfl rfl (by simp) (set_at (at_some h10).2) rfl rfl) rfl ?_
   exact ⟨(((r2.1.set r7.1.toNat (S_api_Instance.mk r11.1 x9.Weight)).set r7.1.toNat (S_api_Instance.mk r11.1 r13.1)), r13.2.L, r13.2.at_), H, ⟨rfl, congrArg (Slot.row 1) (by simp), trivial⟩, ⟨rfl, rfl, trivial⟩⟩
  ·replace H := iff_ h6 H
   refine awp_skip ?_
   exact ⟨(r2.1, r4.2.L, r4.2.at_), H, ⟨rfl, rfl, trivial⟩, ⟨rfl, rfl, trivial⟩⟩
 ·rintro ⟨out15, c16, c17⟩ H
  replace H : gatemake_Stream_Instances_J1 out15 c16 c17 = some r := H
  unfold gatemake_Stream_Instances_J1 at H
  refine awp_seq ?_
  refine awp_seq ?_
  refine awp_plain hN rfl ?_
  refine seq_run0 (stp_move (.ptr _ _) rfl) ?_
  obtain ⟨r18, h19, H⟩ := bnd H
  refine seq_run2 (stp_imp (k_gatemake_Stream_Flip (S_gatemake_Stream.mk c16 c17) 25 r18 h19) rfl ⟨.inl rfl, trivial⟩ rfl) rfl ?_
  refine awp_cond _ rfl (fun h20 => ?_) (fun h20 => ?_)
  ·replace H := ift h20 H
   refine awp_seq ?_
   refine awp_plain hN rfl ?_
   refine qe rfl ?_
   refine awp_ret ?_
   cases H
   exact ⟨trivial, ⟨.inr ⟨rfl, rfl⟩, trivial⟩, rfl⟩
  ·replace H := iff_ h20 H
   refine awp_skip ?_
   refine awp_seq ?_
   refine awp_plain hN rfl ?_
   refine seq_run0 (stp_move (.row _ _) rfl) ?_
   refine seq_run0 (stp_assign (.row _ _) rfl) ?_
   refine awp_ret ?_
   cases H
   exact ⟨trivial, ⟨t_slotv rfl rfl, trivial⟩, rfl⟩
theorem k_gatemake_Stream_RightOutliers (s1 : S_gatemake_Stream) (r : (S_api_Outliers × S_gatemake_Stream)) (H : m_gatemake_Stream_RightOutliers s1 = some r) : Imp Try.prog 23 25 (C_gatemake_Stream s1) [] (resOf [vagg (C_api_Outliers r.1)]) (C_gatemake_Stream r.2) := by
 refine imp_of (us := [vagg (C_api_Outliers r.1)]) (cs' := (C_gatemake_Stream r.2)) (by kernel_rfl) Try.func23 rfl rfl rfl rfl fun X bl hN => ?_
 unfold m_gatemake_Stream_RightOutliers at H
 refine awp_seq ?_
 refine awp_plain hN rfl ?_
 refine seq_run2 (stp_alloc 1 tyZ29 rfl) rfl ?_
 refine awp_seq ?_
 refine awp_plain hN rfl ?_
 refine seq_run0 (stp_move (.ptr _ _) rfl) ?_
 refine seq_run0 (stp_dat (u' := vlst (List.map C_int [1, 2, 2, 3])) (stp_lit [[_], [_], [_], [_]] tyL22 ⟨rfl, .inl ⟨_, rfl, rfl, rfl⟩, rfl, rfl, .inl ⟨_, rfl, rfl, rfl⟩, rfl, rfl, .inl ⟨_, rfl, rfl, rfl⟩, rfl, rfl, .inl ⟨_, rfl, rfl, rfl⟩, rfl, trivial⟩ rfl rfl) rfl) ?_
 obtain ⟨r2, h3, H⟩ := bnd H
 refine seq_run2 (stp_imp (k_gatemake_Stream_Pick s1 [1, 2, 2, 3] r2 h3) rfl ⟨.inl rfl, trivial⟩ rfl) rfl ?_
 refine seq_run0 (stp_move (.ptr _ _) rfl) ?_
 refine seq_run0 (stp_dat (u' := vlst (List.map C_int [1, 5, 10])) (stp_lit [[_], [_], [_]] tyL22 ⟨rfl, .inl ⟨_, rfl, rfl, rfl⟩, rfl, rfl, .inl ⟨_, rfl, rfl, rfl⟩, rfl, rfl, .inl ⟨_, rfl, rfl, rfl⟩, rfl, trivial⟩ rfl rfl) rfl) ?_
 obtain ⟨r4, h5, H⟩ := bnd H
 refine seq_run2 (stp_imp (k_gatemake_Stream_Pick r2.2 [1, 5, 10] r4 h5) rfl ⟨.inl rfl, trivial⟩ rfl) rfl ?_
 refine seq_run0 (stp_move (.ptr _ _) rfl) ?_
 refine seq_run0 (stp_dat (u' := vlst (List.map C_int [0, 333, 500, 1000])) (stp_lit [[_], [_], [_], [_]] tyL22 ⟨rfl, .inl ⟨_, rfl, rfl, rfl⟩, rfl, rfl, .inl ⟨_, rfl, rfl, rfl⟩, rfl, rfl, .inl ⟨_, rfl, rfl, rfl⟩, rfl, rfl, .inl ⟨_, rfl, rfl, rfl⟩, rfl, trivial⟩ rfl rfl) rfl) ?_
 obtain ⟨r6, h7, H⟩ := bnd H
 refine seq_run2 (stp_imp (k_gatemake_Stream_Pick r4.2 [0, 333, 500, 1000] r6 h7) rfl ⟨.inl rfl, trivial⟩ rfl) rfl ?_
 refine seq_run0 (stp_dat (u' := vagg (C_api_Outliers (S_api_Outliers.mk r2.1 r4.1 0 r6.1))) (stp_build [(0, [vint r2.1]), (1, [vint r4.1]), (3, [vint r6.1])] tyZ29 tyP29 rfl ⟨rfl, .inl ⟨_, rfl, rfl, rfl⟩, rfl, rfl, .inl ⟨_, rfl, rfl, rfl⟩, rfl, rfl, .inl ⟨_, rfl, rfl, rfl⟩, rfl, trivial⟩) rfl) ?_
 refine seq_run2 (stp_alloc 2 tyZ29 rfl) rfl ?_
 refine seq_run2 (stp_storeW tyS29 rfl rfl rfl rfl) rfl ?_
 refine awp_seq ?_
 refine awp_draw mixed hN rfl rfl ?_
 refine seq_run0 (stp_fldP tyF29_1 rfl) ?_
 refine seq_run1 (stp_load1 tyS3 rfl rfl) rfl ?_
 refine seq_run0 (stp_move (.ptr _ _) rfl) ?_
 refine seq_run0 (stp_dat (u' := vlst (List.map C_int [1, 2, 3, 8])) (stp_lit [[_], [_], [_], [_]] tyL22 ⟨rfl, .inl ⟨_, rfl, rfl, rfl⟩, rfl, rfl, .inl ⟨_, rfl, rfl, rfl⟩, rfl, rfl, .inl ⟨_, rfl, rfl, rfl⟩, rfl, rfl, .inl ⟨_, rfl, rfl, rfl⟩, rfl, trivial⟩ rfl rfl) rfl) ?_
 obtain ⟨r8, h9, H⟩ := bnd H
 refine seq_run2 (stp_imp (k_gatemake_Stream_Pick r6.2 [1, 2, 3, 8] r8 h9) rfl ⟨.inl rfl, trivial⟩ rfl) rfl ?_
 refine seq_run0 (stp_wrap _ rfl rfl (.inr (.inr ⟨rfl, rfl⟩))) ?_
 refine seq_run0 (stp_fldP tyF29_2 rfl) ?_
 refine seq_run2 (stp_store1 tyS3 rfl rfl rfl rfl) rfl ?_
 refine ⟨rfl, ?_⟩
 refine awp_seq ?_
 refine awp_plain hN rfl ?_
 refine seq_run1 (stp_loadA tyS29 rfl rfl rfl) rfl ?_
 refine seq_run2 (stp_storeW tyS29 rfl rfl rfl rfl) rfl ?_
 refine awp_ret ?_
 cases H
 exact ⟨trivial, ⟨.inl ⟨_, _, _, C_api_Outliers (S_api_Outliers.mk r2.1 r4.1 (wr (r4.1 * r8.1)) r6.1), rfl, rfl, rfl, rfl, tyS29⟩, trivial⟩, rfl⟩
theorem k_gatemake_Stream_Outliers (s1 : S_gatemake_Stream) (r : (S_api_Outliers × S_gatemake_Stream)) (H : m_gatemake_Stream_Outliers s1 = some r) : Imp Try.prog 5 25 (C_gatemake_Stream s1) [] (resOf [vagg (C_api_Outliers r.1)]) (C_gatemake_Stream r.2) := by
 refine imp_of (us := [vagg (C_api_Outliers r.1)]) (cs' := (C_gatemake_Stream r.2)) (by kernel_rfl) Try.func5 rfl rfl rfl rfl fun X bl hN => ?_
 unfold m_gatemake_Stream_Outliers at H
 refine awp_seq ?_
 refine awp_plain hN rfl ?_
 refine seq_run2 (stp_alloc 1 tyZ29 rfl) rfl ?_
 refine awp_seq ?_
 refine awp_plain hN rfl ?_
 refine seq_run0 (stp_move (.ptr _ _) rfl) ?_
 obtain ⟨r2, h3, H⟩ := bnd H
 refine seq_run2 (stp_imp (k_gatemake_Stream_RightOutliers s1 r2 h3) rfl trivial rfl) rfl ?_
 refine seq_run2 (stp_alloc 2 tyZ29 rfl) rfl ?_
 refine seq_run2 (stp_storeW tyS29 rfl rfl rfl rfl) rfl ?_
 refine awp_joinE (ι := (List Int) × Int × Int × Int × Int × Int) (fun i => [(2, .ptr 1 0), (3, .ptr 2 0)]) (fun i => [(0, .box (some bl) 25 [.dat (vlst (List.map C_int i.1)), .dat (vint i.2.1)]), (1, .box none 29 [.dat (vint 0), .dat (vint 0), .dat (vint 0), .dat (vint 0)]), (2, .box none 29 [.dat (vint i.2.2.1), .dat (vint i.2.2.2.1), .dat (vint i.2.2.2.2.1), .dat (vint i.2.2.2.2.2)])]) (fun i => gatemake_Stream_Outliers_J1 i.1 i.2.1 i.2.2.1 i.2.2.2.1 i.2.2.2.2.1 i.2.2.2.2.2 = some r) (fun i => rfl) ?_ ?_
 ·skip
  refine awp_seq ?_
  refine awp_plain hN rfl ?_
  refine seq_run0 (stp_move (.ptr _ _) rfl) ?_
  obtain ⟨r4, h5, H⟩ := bnd H
  refine seq_run2 (stp_imp (k_gatemake_Stream_Flip r2.2 15 r4 h5) rfl ⟨.inl rfl, trivial⟩ rfl) rfl ?_
  refine awp_cond _ rfl (fun h6 => ?_) (fun h6 => ?_)
  ·replace H := ift h6 H
   refine awp_plain hN rfl ?_
   refine seq_run0 (stp_move (.ptr _ _) rfl) ?_
   obtain ⟨r7, h8, H⟩ := bnd H
   refine seq_run2 (stp_imp (k_gatemake_Stream_Odd r4.2 1 100 r7 h8) rfl ⟨.inl rfl, .inl rfl, trivial⟩ rfl) rfl ?_
   refine seq_run0 (stp_move (.ptr _ _) rfl) ?_
   obtain ⟨r9, h10, H⟩ := bnd H
   refine seq_run2 (stp_imp (k_gatemake_Stream_Odd r7.2 1 20 r9 h10) rfl ⟨.inl rfl, .inl rfl, trivial⟩ rfl) rfl ?_
   refine seq_run0 (stp_move (.ptr _ _) rfl) ?_
   obtain ⟨r11, h12, H⟩ := bnd H
   refine seq_run2 (stp_imp (k_gatemake_Stream_Odd r9.2 1 3600000 r11 h12) rfl ⟨.inl rfl, .inl rfl, trivial⟩ rfl) rfl ?_
   refine seq_run0 (stp_move (.ptr _ _) rfl) ?_
   obtain ⟨r13, h14, H⟩ := bnd H
   refine seq_run2 (stp_imp (k_gatemake_Stream_Odd r11.2 0 1000 r13 h14) rfl ⟨.inl rfl, .inl rfl, trivial⟩ rfl) rfl ?_
   refine seq_run0 (stp_fldP tyF29_0 rfl) ?_
   refine seq_run2 (stp_store1 tyS3 rfl rfl rfl rfl) rfl ?_
   refine seq_run0 (stp_fldP tyF29_1 rfl) ?_
   refine seq_run2 (stp_store1 tyS3 rfl rfl rfl rfl) rfl ?_
   refine seq_run0 (stp_fldP tyF29_2 rfl) ?_
   refine seq_run2 (stp_store1 tyS3 rfl rfl rfl rfl) rfl ?_
   refine seq_run0 (stp_fldP tyF29_3 rfl) ?_
   refine seq_run2 (stp_store1 tyS3 rfl rfl rfl rfl) rfl ?_
   exact ⟨(r13.2.L, r13.2.at_, r7.1, r9.1, r11.1, r13.1), H, ⟨rfl, rfl, trivial⟩, ⟨rfl, rfl, rfl, trivial⟩⟩
  ·replace H := iff_ h6 H
   refine awp_skip ?_
   exact ⟨(r4.2.L, r4.2.at_, r2.1.Fails, r2.1.Base, r2.1.Most, r2.1.Share), H, ⟨rfl, rfl, trivial⟩, ⟨rfl, rfl, rfl, trivial⟩⟩
 ·rintro ⟨c15, c16, c17, c18, c19, c20⟩ H
  replace H : gatemake_Stream_Outliers_J1 c15 c16 c17 c18 c19 c20 = some r := H
  unfold gatemake_Stream_Outliers_J1 at H
  refine awp_seq ?_
  refine awp_plain hN rfl ?_
  refine seq_run1 (stp_loadA tyS29 rfl rfl rfl) rfl ?_
  refine seq_run2 (stp_storeW tyS29 rfl rfl rfl rfl) rfl ?_
  refine awp_ret ?_
  cases H
  exact ⟨trivial, ⟨.inl ⟨_, _, _, C_api_Outliers (S_api_Outliers.mk c17 c18 c19 c20), rfl, rfl, rfl, rfl, tyS29⟩, trivial⟩, rfl⟩
theorem k_gatemake_Stream_InstanceKey (s1 : S_gatemake_Stream) (r : (Bs × S_gatemake_Stream)) (H : m_gatemake_Stream_InstanceKey s1 = some r) : Imp Try.prog 25 25 (C_gatemake_Stream s1) [] (resOf [vstr r.1]) (C_gatemake_Stream r.2) := by
 refine imp_of (us := [vstr r.1]) (cs' := (C_gatemake_Stream r.2)) (by kernel_rfl) Try.func25 rfl rfl rfl rfl fun X bl hN => ?_
 unfold m_gatemake_Stream_InstanceKey at H
 refine awp_seq ?_
 refine awp_plain hN rfl ?_
 refine qe rfl ?_
 refine awp_seq ?_
 refine awp_seq ?_
 refine awp_plain hN rfl ?_
 refine seq_run0 (stp_move (.ptr _ _) rfl) ?_
 obtain ⟨r2, h3, H⟩ := bnd H
 refine seq_run2 (stp_imp (k_gatemake_Stream_Flip s1 40 r2 h3) rfl ⟨.inl rfl, trivial⟩ rfl) rfl ?_
 refine awp_cond _ rfl (fun h4 => ?_) (fun h4 => ?_)
 ·replace H := ift h4 H
  refine awp_seq ?_
  refine awp_plain hN rfl ?_
  refine seq_run0 (stp_move (.ptr _ _) rfl) ?_
  refine seq_run0 (stp_dat (u' := vlst (List.map C_string [[], [110, 111, 110, 101]])) (stp_lit [[_], [_]] tyL34 ⟨rfl, .inl ⟨_, rfl, rfl, rfl⟩, rfl, rfl, .inl ⟨_, rfl, rfl, rfl⟩, rfl, trivial⟩ rfl rfl) rfl) ?_
  obtain ⟨r5, h6, H⟩ := bnd H
  refine seq_run2 (stp_imp (k_gatemake_Stream_Some r2.2 ([[], [110, 111, 110, 101]]) r5 h6) rfl ⟨.inl rfl, trivial⟩ rfl) rfl ?_
  refine qe rfl ?_
  refine awp_ret ?_
  cases H
  exact ⟨trivial, ⟨.inl rfl, trivial⟩, rfl⟩
 ·replace H := iff_ h4 H
  refine awp_skip ?_
  refine awp_seq ?_
  refine awp_plain hN rfl ?_
  refine seq_run0 (stp_move (.ptr _ _) rfl) ?_
  refine seq_run0 (stp_dat (u' := vlst (List.map C_string [[105, 97], [105, 98], [105, 99], [105, 100]])) (stp_lit [[_], [_], [_], [_]] tyL34 ⟨rfl, .inl ⟨_, rfl, rfl, rfl⟩, rfl, rfl, .inl ⟨_, rfl, rfl, rfl⟩, rfl, rfl, .inl ⟨_, rfl, rfl, rfl⟩, rfl, rfl, .inl ⟨_, rfl, rfl, rfl⟩, rfl, trivial⟩ rfl rfl) rfl) ?_
  obtain ⟨r7, h8, H⟩ := bnd H
  refine seq_run2 (stp_imp (k_gatemake_Stream_Some r2.2 ([[105, 97], [105, 98], [105, 99], [105, 100]]) r7 h8) rfl ⟨.inl rfl, trivial⟩ rfl) rfl ?_
  refine qe rfl ?_
  refine awp_ret ?_
  cases H
  exact ⟨trivial, ⟨.inl rfl, trivial⟩, rfl⟩
theorem k_gatemake_Stream_Results (s1 : S_gatemake_Stream) (l2 : (List S_api_Instance)) (r : ((List S_api_Result) × S_gatemake_Stream)) (H : m_gatemake_Stream_Results s1 l2 = some r) : Imp Try.prog 7 25 (C_gatemake_Stream s1) [vlst (List.map C_api_Instance l2)] (resOf [vlst (List.map C_api_Result r.1)]) (C_gatemake_Stream r.2) := by
 refine imp_of (us := [vlst (List.map C_api_Result r.1)]) (cs' := (C_gatemake_Stream r.2)) (by kernel_rfl) Try.func7 rfl rfl rfl rfl fun X bl hN => ?_
 unfold m_gatemake_Stream_Results at H
 refine awp_seq ?_
 refine awp_plain hN rfl ?_
 refine qe rfl ?_
 refine awp_seq ?_
 refine awp_plain hN rfl ?_
 refine qe rfl ?_
 refine awp_seq ?_
 refine awp_plain hN rfl ?_
 refine qe rfl ?_
 refine awp_seq ?_
 refine awp_seq ?_
 refine awp_plain hN rfl ?_
 refine seq_run0 (stp_move (.ptr _ _) rfl) ?_
 obtain ⟨r3, h4, H⟩ := bnd H
 refine seq_run2 (stp_imp (k_gatemake_Stream_Range s1 0 18 r3 h4) rfl ⟨.inl rfl, .inl rfl, trivial⟩ rfl) rfl ?_
 refine qd rfl ?_
 refine awp_block ?_
 refine awp_nilrow 5 1 56 3 rfl rfl rfl ?_
 obtain ⟨h11, H⟩ := gif H
 refine awp_rng (fun (k9 : Nat) (s : Int × (List Int) × Int × (List S_api_Result)) => [(0, .ptr 0 0), (1, .dat (vlst (List.map C_api_Instance l2))), (5, .row 1 s.2.2.2.length), (6, .dat (vint s.1)), (9, .dat (vint r3.1)), (10, .dat (vint (k9 : Int)))]) (fun (k9 : Nat) (s : Int × (List Int) × Int × (List S_api_Result)) => [(0, .box (some bl) 25 [.dat (vlst (List.map C_int s.2.1)), .dat (vint s.2.2.1)]), (1, .row 56 3 (List.map C_api_Result s.2.2.2))]) (0, r3.2.L, r3.2.at_, []) H ⟨rfl, rfl, rfl, rfl, rfl, rfl, trivial⟩ ⟨rfl, rfl, trivial⟩ (fun _ _ => rfl) ?_ ?_
 ·rintro ⟨v5, c6, c7, l8⟩ H
  replace H : gatemake_Stream_Results_E1 v5 c6 c7 l8 = some r := H
  unfold gatemake_Stream_Results_E1 at H
  refine awp_seq ?_
  refine awp_plain hN rfl ?_
  refine seq_run0 (stp_lss rfl rfl) ?_
  refine awp_seq ?_
  refine awp_cond _ rfl (fun h => (lt_tI h).elim) (fun h => ?_)
  refine awp_exit ?_
  refine awp_seq ?_
  refine awp_plain hN rfl ?_
  refine seq_run0 (stp_move (.row _ _) rfl) ?_
  refine seq_run0 (stp_assign (.row _ _) rfl) ?_
  refine awp_ret ?_
  cases H
  exact ⟨trivial, ⟨t_slotv rfl rfl, trivial⟩, rfl⟩
 ·rintro k9 ⟨v5, c6, c7, l8⟩ q10 h12 H hq10
  replace H : gatemake_Stream_Results_L1 l2 k9 v5 c6 c7 l8 = some q10 := H
  unfold gatemake_Stream_Results_L1 at H
  refine awp_seq ?_
  refine awp_plain hN rfl ?_
  refine seq_run0 (stp_lss rfl rfl) ?_
  refine awp_seq ?_
  refine awp_cond _ rfl (fun h => ?_) (fun h => (lt_fI h12 h).elim)
  refine awp_skip ?_
  refine awp_seq ?_
  refine awp_block ?_
  refine awp_seq ?_
  refine awp_plain hN rfl ?_
  refine qd rfl ?_
  refine seq_run0 (stp_move (.ptr _ _) rfl) ?_
  refine seq_run0 (stp_dat (u' := vlst (List.map C_int [0, 1, 5, 10])) (stp_lit [[_], [_], [_], [_]] tyL22 ⟨rfl, .inl ⟨_, rfl, rfl, rfl⟩, rfl, rfl, .inl ⟨_, rfl, rfl, rfl⟩, rfl, rfl, .inl ⟨_, rfl, rfl, rfl⟩, rfl, rfl, .inl ⟨_, rfl, rfl, rfl⟩, rfl, trivial⟩ rfl rfl) rfl) ?_
  obtain ⟨r13, h14, H⟩ := bnd H
  refine seq_run2 (stp_imp (k_gatemake_Stream_Pick (S_gatemake_Stream.mk c6 c7) [0, 1, 5, 10] r13 h14) rfl ⟨.inl rfl, trivial⟩ rfl) rfl ?_
  refine seq_run0 (stp_wrap _ rfl rfl (.inl ⟨rfl, rfl⟩)) ?_
  refine qe rfl ?_
  refine awp_seq ?_
  refine awp_plain hN rfl ?_
  refine qd rfl ?_
  refine seq_run0 (stp_move (.ptr _ _) rfl) ?_
  obtain ⟨r15, h16, H⟩ := bnd H
  refine seq_run2 (stp_imp (k_gatemake_Stream_InstanceKey r13.2 r15 h16) rfl trivial rfl) rfl ?_
  refine seq_run0 (stp_move (.ptr _ _) rfl) ?_
  refine seq_run0 (stp_dat (u' := vlst (List.map C_int [0, 200, 404, 500, 503, 599])) (stp_lit [[_], [_], [_], [_], [_], [_]] tyL22 ⟨rfl, .inl ⟨_, rfl, rfl, rfl⟩, rfl, rfl, .inl ⟨_, rfl, rfl, rfl⟩, rfl, rfl, .inl ⟨_, rfl, rfl, rfl⟩, rfl, rfl, .inl ⟨_, rfl, rfl, rfl⟩, rfl, rfl, .inl ⟨_, rfl, rfl, rfl⟩, rfl, rfl, .inl ⟨_, rfl, rfl, rfl⟩, rfl, trivial⟩ rfl rfl) rfl) ?_
  obtain ⟨r17, h18, H⟩ := bnd H
  refine seq_run2 (stp_imp (k_gatemake_Stream_Pick r15.2 [0, 200, 404, 500, 503, 599] r17 h18) rfl ⟨.inl rfl, trivial⟩ rfl) rfl ?_
  refine seq_run0 (stp_dat (u' := vagg (C_api_Result (S_api_Result.mk (wr (v5 + r13.1)) r15.1 r17.1))) (stp_build [(0, [vint (wr (v5 + r13.1))]), (1, [vstr r15.1]), (2, [vint r17.1])] tyZ56 tyP56 rfl ⟨rfl, .inl ⟨_, rfl, rfl, rfl⟩, rfl, rfl, .inl ⟨_, rfl, rfl, rfl⟩, rfl, rfl, .inl ⟨_, rfl, rfl, rfl⟩, rfl, trivial⟩) rfl) ?_
  refine seq_run2 (stp_alloc 2 tyZ56 rfl) rfl ?_
  refine seq_run2 (stp_storeW tyS56 rfl rfl rfl rfl) rfl ?_
  refine awp_joinE (ι := (List Int) × Int × Bs) (fun i => [(0, .ptr 0 0), (1, .dat (vlst (List.map C_api_Instance l2))), (5, .row 1 l8.length), (6, .dat (vint (wr (v5 + r13.1)))), (7, .ptr 2 0), (9, .dat (vint r3.1)), (10, .dat (vint (k9 : Int)))]) (fun i => [(0, .box (some bl) 25 [.dat (vlst (List.map C_int i.1)), .dat (vint i.2.1)]), (1, .row 56 3 (List.map C_api_Result l8)), (2, .box none 56 [.dat (vint (wr (v5 + r13.1))), .dat (vstr i.2.2), .dat (vint r17.1)])]) (fun i => gatemake_Stream_Results_J2 v5 l8 r13 r17 i.1 i.2.1 i.2.2 = some q10) (fun i => rfl) ?_ ?_
  ·skip
   refine awp_joinE (ι := Bool × (List Int) × Int) (fun i => [(0, .ptr 0 0), (1, .dat (vlst (List.map C_api_Instance l2))), (5, .row 1 l8.length), (6, .dat (vint (wr (v5 + r13.1)))), (7, .ptr 2 0), (9, .dat (vint r3.1)), (10, .dat (vint (k9 : Int))), (31, .dat (vbool i.1))]) (fun i => [(0, .box (some bl) 25 [.dat (vlst (List.map C_int i.2.1)), .dat (vint i.2.2)]), (1, .row 56 3 (List.map C_api_Result l8)), (2, .box none 56 [.dat (vint (wr (v5 + r13.1))), .dat (vstr r15.1), .dat (vint r17.1)])]) (fun i => gatemake_Stream_Results_J3 l2 v5 l8 r13 r15 r17 i.1 i.2.1 i.2.2 = some q10) (fun i => rfl) ?_ ?_
   ·skip
    refine awp_plain hN rfl ?_
    refine qd rfl ?_
    refine seq_run0 (t_len tyU26 rfl) ?_
    refine seq_run0 (stp_gtr rfl rfl) ?_
    refine qd rfl ?_
    refine seq_split (j := 3) rfl rfl (fun h19 => ?_) (fun h19 => ?_) rfl
    ·have h20 := un1 h19
     replace H := ift h20 H
     refine seq_g0 rfl rfl h19 (stp_move (.ptr _ _) rfl) ?_
     obtain ⟨r21, h22, H⟩ := bnd H
     refine seq_g2 rfl rfl h19 (stp_imp (k_gatemake_Stream_Flip r17.2 60 r21 h22) rfl ⟨.inl rfl, trivial⟩ rfl) rfl ?_
     refine seq_g0 rfl rfl h19 (stp_not rfl) ?_
     refine seq_run0 (stp_pick_t rfl (bTT h20) rfl) ?_
     exact ⟨(!r21.1, r21.2.L, r21.2.at_), H, ⟨rfl, rfl, rfl, rfl, rfl, rfl, rfl, rfl, trivial⟩, ⟨rfl, rfl, rfl, trivial⟩⟩
    ·have h23 := un2 h19
     replace H := iff_ h23 H
     refine seq_skip rfl rfl h19 ?_
     refine seq_skip rfl rfl h19 ?_
     refine seq_skip rfl rfl h19 ?_
     refine seq_run0 (stp_pick_f rfl (bFF h23) rfl) ?_
     exact ⟨(false, r17.2.L, r17.2.at_), H, ⟨rfl, rfl, rfl, rfl, rfl, rfl, rfl, rfl, trivial⟩, ⟨rfl, rfl, rfl, trivial⟩⟩
   ·rintro ⟨v24, c25, c26⟩ H
    replace H : gatemake_Stream_Results_J3 l2 v5 l8 r13 r15 r17 v24 c25 c26 = some q10 := H
    unfold gatemake_Stream_Results_J3 at H
    refine awp_cond _ rfl (fun h27 => ?_) (fun h27 => ?_)
    ·replace H := ift h27 H
     refine awp_plain hN rfl ?_
     refine qd rfl ?_
     refine seq_run0 (stp_move (.ptr _ _) rfl) ?_
     refine qd rfl ?_
     refine seq_run0 (t_len tyU26 rfl) ?_
     obtain ⟨r28, h29, H⟩ := bnd H
     refine seq_run2 (stp_imp (k_gatemake_Stream_Next (S_gatemake_Stream.mk c25 c26) (l2.length : Int) r28 h29) rfl ⟨.inl rfl, trivial⟩ rfl) rfl ?_
     obtain ⟨x30, h31, H⟩ := bnd H
     refine seq_run0 (t_idxI tyE26 (fun _ => rfl) rfl rfl h31) ?_
     refine seq_run0 (stp_fldE tyF50_0 rfl) ?_
     refine seq_run0 (stp_loadE1 tyS9 rfl (map_at (at_some h31).2) rfl) ?_
     refine seq_run0 (stp_fldP tyF56_1 rfl) ?_
     refine seq_run2 (stp_store1 tyS9 rfl rfl rfl rfl) rfl ?_
     exact ⟨(r28.2.L, r28.2.at_, x30.Key), H, ⟨rfl, rfl, rfl, rfl, rfl, rfl, rfl, trivial⟩, ⟨rfl, rfl, rfl, trivial⟩⟩
    ·replace H := iff_ h27 H
     refine awp_skip ?_
     exact ⟨(c25, c26, r15.1), H, ⟨rfl, rfl, rfl, rfl, rfl, rfl, rfl, trivial⟩, ⟨rfl, rfl, rfl, trivial⟩⟩
  ·rintro ⟨c32, c33, c34⟩ H
   replace H : gatemake_Stream_Results_J2 v5 l8 r13 r17 c32 c33 c34 = some q10 := H
   unfold gatemake_Stream_Results_J2 at H
   refine awp_joinE (ι := (List Int) × Int × Int × Int) (fun i => [(0, .ptr 0 0), (1, .dat (vlst (List.map C_api_Instance l2))), (5, .row 1 l8.length), (6, .dat (vint (wr (v5 + r13.1)))), (7, .ptr 2 0), (9, .dat (vint r3.1)), (10, .dat (vint (k9 : Int)))]) (fun i => [(0, .box (some bl) 25 [.dat (vlst (List.map C_int i.1)), .dat (vint i.2.1)]), (1, .row 56 3 (List.map C_api_Result l8)), (2, .box none 56 [.dat (vint i.2.2.1), .dat (vstr c34), .dat (vint i.2.2.2)])]) (fun i => gatemake_Stream_Results_J4 v5 l8 r13 c34 i.1 i.2.1 i.2.2.1 i.2.2.2 = some q10) (fun i => rfl) ?_ ?_
   ·skip
    refine awp_seq ?_
    refine awp_plain hN rfl ?_
    refine seq_run0 (stp_move (.ptr _ _) rfl) ?_
    obtain ⟨r35, h36, H⟩ := bnd H
    refine seq_run2 (stp_imp (k_gatemake_Stream_Flip (S_gatemake_Stream.mk c32 c33) 80 r35 h36) rfl ⟨.inl rfl, trivial⟩ rfl) rfl ?_
    refine awp_cond _ rfl (fun h37 => ?_) (fun h37 => ?_)
    ·replace H := ift h37 H
     refine awp_plain hN rfl ?_
     refine seq_run0 (stp_move (.ptr _ _) rfl) ?_
     obtain ⟨r38, h39, H⟩ := bnd H
     refine seq_run2 (stp_imp (k_gatemake_Stream_Odd r35.2 0 50 r38 h39) rfl ⟨.inl rfl, .inl rfl, trivial⟩ rfl) rfl ?_
     refine seq_run0 (stp_move (.ptr _ _) rfl) ?_
     obtain ⟨r40, h41, H⟩ := bnd H
     refine seq_run2 (stp_imp (k_gatemake_Stream_Odd r38.2 100 599 r40 h41) rfl ⟨.inl rfl, .inl rfl, trivial⟩ rfl) rfl ?_
     refine seq_run0 (stp_fldP tyF56_0 rfl) ?_
     refine seq_run2 (stp_store1 tyS3 rfl rfl rfl rfl) rfl ?_
     refine seq_run0 (stp_fldP tyF56_2 rfl) ?_
     refine seq_run2 (stp_store1 tyS3 rfl rfl rfl rfl) rfl ?_
     exact ⟨(r40.2.L, r40.2.at_, r38.1, r40.1), H, ⟨rfl, rfl, rfl, rfl, rfl, rfl, rfl, trivial⟩, ⟨rfl, rfl, rfl, trivial⟩⟩
    ·replace H := iff_ h37 H
     refine awp_skip ?_
     exact ⟨(r35.2.L, r35.2.at_, (wr (v5 + r13.1)), r17.1), H, ⟨rfl, rfl, rfl, rfl, rfl, rfl, rfl, trivial⟩, ⟨rfl, rfl, rfl, trivial⟩⟩
   ·rintro ⟨c42, c43, c44, c45⟩ H
    replace H : gatemake_Stream_Results_J4 v5 l8 r13 c34 c42 c43 c44 c45 = some q10 := H
    unfold gatemake_Stream_Results_J4 at H
    refine awp_plain hN rfl ?_
    refine seq_run0 (stp_move (.row _ _) rfl) ?_
    refine seq_run1 (stp_loadA tyS56 rfl rfl rfl) rfl ?_
    refine seq_run0 (stp_dat (u' := vlst (List.map C_api_Result [(S_api_Result.mk c44 c34 c45)])) (stp_lit [_] tyL32 ⟨rfl, .inr rfl, rfl, trivial⟩ rfl rfl) rfl) ?_
    obtain ⟨h46, H⟩ := gif H
    refine seq_run2 (t_app tyL32 (fun _ => rfl) rfl rfl rfl ⟨by simp, by first | (simp; done) | simpa using h46⟩ rfl) rfl ?_
    refine seq_run0 (stp_assign (.row _ _) rfl) ?_
    refine awp_plain hN rfl ?_
    refine seq_run0 (stp_add rfl rfl (by omega)) ?_
    refine qd rfl ?_
    exact ⟨_, backl H, ⟨rfl, rfl, rfl, rfl, rfl, rfl, trivial⟩, ⟨rfl, rfl, trivial⟩⟩
theorem k_kit_IsKey (s1 : Bs) (r : (Bool)) (H : m_kit_IsKey s1 = some r) : Fn Try.prog 43 [vstr s1] (resOf [vbool r]) := by
 refine ⟨by kernel_rfl, pure_of (us := [vbool r]) Try.func43 rfl rfl rfl rfl fun X hN => ?_⟩
 unfold m_kit_IsKey at H
 refine awp_seq ?_
 refine awp_plain hN rfl ?_
 refine qe rfl ?_
 refine awp_seq ?_
 refine awp_seq ?_
 refine awp_plain hN rfl ?_
 refine qe rfl ?_
 refine awp_block ?_
 obtain ⟨h4, H⟩ := gif H
 refine awp_forL (fun (i2 : Nat) (s : Unit) => [(0, .dat (vstr s1)), (3, .dat (vint (i2 : Int)))]) (fun (i2 : Nat) (s : Unit) => []) () H ⟨rfl, rfl, trivial⟩ trivial (fun _ _ => rfl) ?_ ?_
 ·rintro ⟨⟩ H
  replace H : kit_IsKey_E1 s1 = some r := H
  unfold kit_IsKey_E1 at H
  refine awp_seq ?_
  refine awp_seq ?_
  refine awp_plain hN rfl ?_
  refine qd rfl ?_
  refine qd rfl ?_
  refine seq_run0 (stp_len_str tyU9 rfl) ?_
  refine seq_run0 (stp_lss rfl rfl) ?_
  refine awp_cond _ rfl (fun h => (lt_t h).elim) (fun h => ?_)
  refine awp_exit ?_
  refine awp_seq ?_
  refine awp_plain hN rfl ?_
  refine qd rfl ?_
  refine seq_run0 (stp_sneq rfl rfl) ?_
  refine qd rfl ?_
  refine seq_aT rfl rfl (fun hc => stp_move (.dat _) rfl) ?_
  refine seq_aT rfl rfl (fun hc => stp_len_str tyU9 (cnd (c := (decide (s1 ≠ []))) hc)) ?_
  refine seq_aT rfl rfl (fun hc => stp_leq (cnd (c := (decide (s1 ≠ []))) hc) rfl) ?_
  refine seq_run0 (stp_pick_and rfl (fun hb => (cnd (c := (decide (s1 ≠ []))) hb)) rfl) ?_
  refine qe rfl ?_
  refine awp_ret ?_
  cases H
  exact ⟨trivial, .inl rfl, trivial⟩
 ·rintro i2 x5 ⟨⟩ q3 h6 h7 H hq3
  replace H : kit_IsKey_L1 i2 x5 = some q3 := H
  unfold kit_IsKey_L1 at H
  refine awp_seq ?_
  refine awp_seq ?_
  refine awp_plain hN rfl ?_
  refine qd rfl ?_
  refine qd rfl ?_
  refine seq_run0 (stp_len_str tyU9 rfl) ?_
  refine seq_run0 (stp_lss rfl rfl) ?_
  refine awp_cond _ rfl (fun h => ?_) (fun h => (lt_f h6 h).elim)
  refine awp_skip ?_
  refine awp_seq ?_
  refine awp_block ?_
  refine awp_seq ?_
  refine awp_plain hN rfl ?_
  refine qd rfl ?_
  refine qd rfl ?_
  refine seq_run0 (t_byte tyU9 rfl rfl h7) ?_
  refine qe rfl ?_
  refine awp_seq ?_
  refine awp_plain hN rfl ?_
  refine qd rfl ?_
  refine seq_run0 (stp_geq rfl rfl) ?_
  refine qd rfl ?_
  refine seq_aT rfl rfl (fun hc => stp_move (.dat _) rfl) ?_
  refine seq_aT rfl rfl (fun hc => stp_leq (cnd (c := (decide (97 ≤ (x5.toNat : Int)))) hc) rfl) ?_
  refine seq_run0 (stp_pick_and rfl (fun hb => (cnd (c := (decide (97 ≤ (x5.toNat : Int)))) hb)) rfl) ?_
  refine qd rfl ?_
  refine seq_aF rfl rfl (fun hc => stp_move (.dat _) rfl) ?_
  refine seq_aF rfl rfl (fun hc => stp_gtr (cnd (c := (!((decide (97 ≤ (x5.toNat : Int))) && (decide ((x5.toNat : Int) ≤ 122))))) hc) rfl) ?_
  refine seq_aF rfl rfl (fun hc => stp_move (.dat _) (cnd (c := (!((decide (97 ≤ (x5.toNat : Int))) && (decide ((x5.toNat : Int) ≤ 122))))) hc)) ?_
  refine seq_bT rfl rfl (fun hc => stp_move (.dat _) rfl) ?_
  refine seq_bT rfl rfl (fun hc => stp_geq (cnd (c := ((!((decide (97 ≤ (x5.toNat : Int))) && (decide ((x5.toNat : Int) ≤ 122)))) && (decide (0 < (i2 : Int))))) hc) rfl) ?_
  refine seq_bT rfl rfl (fun hc => stp_move (.dat _) (cnd (c := ((!((decide (97 ≤ (x5.toNat : Int))) && (decide ((x5.toNat : Int) ≤ 122)))) && (decide (0 < (i2 : Int))))) hc)) ?_
  refine seq_bT rfl rfl (fun hc => stp_move (.dat _) rfl) ?_
  refine seq_bT rfl rfl (fun hc => stp_leq (cnd (c := (((!((decide (97 ≤ (x5.toNat : Int))) && (decide ((x5.toNat : Int) ≤ 122)))) && (decide (0 < (i2 : Int)))) && (decide (48 ≤ (x5.toNat : Int))))) hc) rfl) ?_
  refine seq_bT rfl rfl (fun hc => stp_pick_and (cnd (c := ((!((decide (97 ≤ (x5.toNat : Int))) && (decide ((x5.toNat : Int) ≤ 122)))) && (decide (0 < (i2 : Int))))) hc) (fun hb => (cnd (c := (((!((decide (97 ≤ (x5.toNat : Int))) && (decide ((x5.toNat : Int) ≤ 122)))) && (decide (0 < (i2 : Int)))) && (decide (48 ≤ (x5.toNat : Int))))) (andI hc hb))) rfl) ?_
  refine seq_bT rfl rfl (fun hc => stp_move (.dat _) (cnd (c := ((!((decide (97 ≤ (x5.toNat : Int))) && (decide ((x5.toNat : Int) ≤ 122)))) && (decide (0 < (i2 : Int))))) hc)) ?_
  refine seq_bF rfl rfl (fun hc => stp_move (.dat _) rfl) ?_
  refine seq_bF rfl rfl (fun hc => stp_eql (cnd (c := (((!((decide (97 ≤ (x5.toNat : Int))) && (decide ((x5.toNat : Int) ≤ 122)))) && (decide (0 < (i2 : Int)))) && !((decide (48 ≤ (x5.toNat : Int))) && (decide ((x5.toNat : Int) ≤ 57))))) hc) rfl) ?_
  refine seq_bT rfl rfl (fun hc => stp_pick_or (cnd (c := ((!((decide (97 ≤ (x5.toNat : Int))) && (decide ((x5.toNat : Int) ≤ 122)))) && (decide (0 < (i2 : Int))))) hc) rfl (fun hb => (cnd (c := (((!((decide (97 ≤ (x5.toNat : Int))) && (decide ((x5.toNat : Int) ≤ 122)))) && (decide (0 < (i2 : Int)))) && !((decide (48 ≤ (x5.toNat : Int))) && (decide ((x5.toNat : Int) ≤ 57))))) (andI hc (notI hb))))) ?_
  refine seq_bT rfl rfl (fun hc => stp_move (.dat _) (cnd (c := ((!((decide (97 ≤ (x5.toNat : Int))) && (decide ((x5.toNat : Int) ≤ 122)))) && (decide (0 < (i2 : Int))))) hc)) ?_
  refine seq_bF rfl rfl (fun hc => stp_move (.dat _) rfl) ?_
  refine seq_bF rfl rfl (fun hc => stp_eql (cnd (c := (((!((decide (97 ≤ (x5.toNat : Int))) && (decide ((x5.toNat : Int) ≤ 122)))) && (decide (0 < (i2 : Int)))) && !(((decide (48 ≤ (x5.toNat : Int))) && (decide ((x5.toNat : Int) ≤ 57))) || (decide ((x5.toNat : Int) = 45))))) hc) rfl) ?_
  refine seq_bT rfl rfl (fun hc => stp_pick_or (cnd (c := ((!((decide (97 ≤ (x5.toNat : Int))) && (decide ((x5.toNat : Int) ≤ 122)))) && (decide (0 < (i2 : Int))))) hc) rfl (fun hb => (cnd (c := (((!((decide (97 ≤ (x5.toNat : Int))) && (decide ((x5.toNat : Int) ≤ 122)))) && (decide (0 < (i2 : Int)))) && !(((decide (48 ≤ (x5.toNat : Int))) && (decide ((x5.toNat : Int) ≤ 57))) || (decide ((x5.toNat : Int) = 45))))) (andI hc (notI hb))))) ?_
  refine seq_aF rfl rfl (fun hc => stp_pick_and (cnd (c := (!((decide (97 ≤ (x5.toNat : Int))) && (decide ((x5.toNat : Int) ≤ 122))))) hc) (fun hb => (cnd (c := ((!((decide (97 ≤ (x5.toNat : Int))) && (decide ((x5.toNat : Int) ≤ 122)))) && (decide (0 < (i2 : Int))))) (andI hc hb))) rfl) ?_
  refine seq_run0 (stp_pick_or rfl rfl (fun hb => (cnd (c := (!((decide (97 ≤ (x5.toNat : Int))) && (decide ((x5.toNat : Int) ≤ 122))))) (notI hb)))) ?_
  refine seq_run0 (stp_not rfl) ?_
  refine awp_cond _ rfl (fun h8 => ?_) (fun h8 => ?_)
  ·replace H := ift h8 H
   refine awp_seq ?_
   refine awp_plain hN rfl ?_
   refine qe rfl ?_
   refine awp_ret ?_
   replace H := retl H hq3
   cases H
   exact ⟨trivial, .inl rfl, trivial⟩
  ·replace H := iff_ h8 H
   refine awp_skip ?_
   refine awp_plain hN rfl ?_
   refine qd rfl ?_
   refine seq_run0 (stp_add rfl rfl (by omega)) ?_
   refine qe rfl ?_
   exact ⟨_, backl H, ⟨rfl, rfl, trivial⟩, trivial⟩
theorem k_kit_Outside (n1 : Int) (low2 : Int) (high3 : Int) (r : (Bool)) (H : m_kit_Outside n1 low2 high3 = some r) : Fn Try.prog 34 [vint n1, vint low2, vint high3] (resOf [vbool r]) := by
 refine ⟨by kernel_rfl, pure_of (us := [vbool r]) Try.func34 rfl rfl rfl rfl fun X hN => ?_⟩
 unfold m_kit_Outside at H
 refine awp_seq ?_
 refine awp_plain hN rfl ?_
 refine qe rfl ?_
 refine awp_seq ?_
 refine awp_plain hN rfl ?_
 refine qd rfl ?_
 refine qd rfl ?_
 refine seq_run0 (stp_lss rfl rfl) ?_
 refine qd rfl ?_
 refine seq_aF rfl rfl (fun hc => stp_move (.dat _) rfl) ?_
 refine seq_aF rfl rfl (fun hc => stp_move (.dat _) rfl) ?_
 refine seq_aF rfl rfl (fun hc => stp_gtr (cnd (c := (!(decide (n1 < low2)))) hc) (cnd (c := (!(decide (n1 < low2)))) hc)) ?_
 refine seq_run0 (stp_pick_or rfl rfl (fun hb => (cnd (c := (!(decide (n1 < low2)))) (notI hb)))) ?_
 refine qe rfl ?_
 refine awp_ret ?_
 cases H
 exact ⟨trivial, .inl rfl, trivial⟩
theorem k_upstream_CheckInstances (l1 : (List S_api_Instance)) (r : (Int)) (H : m_upstream_CheckInstances l1 = some r) : Fn Try.prog 26 [vlst (List.map C_api_Instance l1)] (resOf [vint r]) := by
 refine ⟨by kernel_rfl, pure_of (us := [vint r]) Try.func26 rfl rfl rfl rfl fun X hN => ?_⟩
 unfold m_upstream_CheckInstances at H
 refine awp_seq ?_
 refine awp_plain hN rfl ?_
 refine qe rfl ?_
 refine awp_seq ?_
 refine awp_seq ?_
 refine awp_plain hN rfl ?_
 refine qd rfl ?_
 refine seq_run0 (t_len tyU26 rfl) ?_
 refine seq_run0 (stp_gtr rfl rfl) ?_
 refine awp_cond _ rfl (fun h2 => ?_) (fun h2 => ?_)
 ·replace H := ift h2 H
  refine awp_seq ?_
  refine awp_plain hN rfl ?_
  refine qe rfl ?_
  refine awp_ret ?_
  cases H
  exact ⟨trivial, .inl rfl, trivial⟩
 ·replace H := iff_ h2 H
  refine awp_skip ?_
  refine awp_seq ?_
  refine awp_seq ?_
  refine awp_plain hN rfl ?_
  refine qd rfl ?_
  refine seq_run0 (t_len tyU26 rfl) ?_
  refine qd rfl ?_
  refine awp_block ?_
  obtain ⟨h5, H⟩ := gif H
  refine awp_forL (fun (k3 : Nat) (s : Unit) => [(0, .dat (vlst (List.map C_api_Instance l1))), (8, .dat (vlst (List.map C_api_Instance l1))), (9, .dat (vint (l1.length : Int))), (10, .dat (vint (k3 : Int)))]) (fun (k3 : Nat) (s : Unit) => []) () H ⟨rfl, rfl, rfl, rfl, trivial⟩ trivial (fun _ _ => rfl) ?_ ?_
  ·rintro ⟨⟩ H
   replace H : upstream_CheckInstances_E1 = some r := H
   unfold upstream_CheckInstances_E1 at H
   refine awp_seq ?_
   refine awp_plain hN rfl ?_
   refine seq_run0 (stp_lss rfl rfl) ?_
   refine awp_seq ?_
   refine awp_cond _ rfl (fun h => (lt_t h).elim) (fun h => ?_)
   refine awp_exit ?_
   refine awp_seq ?_
   refine awp_plain hN rfl ?_
   refine qe rfl ?_
   refine awp_ret ?_
   cases H
   exact ⟨trivial, .inl rfl, trivial⟩
  ·rintro k3 x6 ⟨⟩ q4 h7 h8 H hq4
   replace H : upstream_CheckInstances_L1 l1 k3 x6 = some q4 := H
   unfold upstream_CheckInstances_L1 at H
   refine awp_seq ?_
   refine awp_plain hN rfl ?_
   refine seq_run0 (stp_lss rfl rfl) ?_
   refine awp_seq ?_
   refine awp_cond _ rfl (fun h => ?_) (fun h => (lt_f h7 h).elim)
   refine awp_skip ?_
   refine awp_seq ?_
   refine awp_block ?_
   refine awp_seq ?_
   refine awp_plain hN rfl ?_
   refine qd rfl ?_
   refine seq_run0 (t_idx tyE26 (fun _ => rfl) rfl rfl h8) ?_
   refine seq_run0 (stp_loadEA tyS50 rfl (map_at h8) rfl) ?_
   refine seq_run2 (stp_alloc 1 tyZ50 rfl) rfl ?_
   refine qe rfl ?_
   refine seq_run2 (stp_storeW tyS50 rfl rfl rfl rfl) rfl ?_
   refine awp_block ?_
   refine awp_seq ?_
   refine awp_plain hN rfl ?_
   refine seq_run0 (stp_fldP tyF50_0 rfl) ?_
   refine seq_run1 (stp_load1 tyS9 rfl rfl) rfl ?_
   obtain ⟨r9, h10, H⟩ := bnd H
   refine seq_run0 (stp_call (k_kit_IsKey x6.Key r9 h10) ⟨.inl rfl, trivial⟩) ?_
   refine seq_run0 (stp_not rfl) ?_
   refine qe rfl ?_
   refine awp_cond _ rfl (fun h11 => ?_) (fun h11 => ?_)
   ·replace H := ift h11 H
    refine awp_seq ?_
    refine awp_plain hN rfl ?_
    refine qe rfl ?_
    refine awp_ret ?_
    replace H := retl H hq4
    cases H
    exact ⟨trivial, .inl rfl, trivial⟩
   ·replace H := iff_ h11 H
    refine awp_joinE (ι := Bool) (fun i => [(0, .dat (vlst (List.map C_api_Instance l1))), (4, .ptr 1 0), (8, .dat (vlst (List.map C_api_Instance l1))), (9, .dat (vint (l1.length : Int))), (10, .dat (vint (k3 : Int))), (20, .dat (vbool i))]) (fun i => [(1, .box none 50 [.dat (vstr x6.Key), .dat (vint x6.Weight)])]) (fun i => upstream_CheckInstances_J2 x6 i = some q4) (fun i => rfl) ?_ ?_
    ·skip
     refine awp_draw mixed hN rfl rfl ?_
     refine qd rfl ?_
     refine seq_run0 (stp_gtr rfl rfl) ?_
     refine qd rfl ?_
     refine seq_split (j := 2) rfl rfl (fun h12 => ?_) (fun h12 => ?_) rfl
     ·have h13 := un1 h12
      replace H := ift h13 H
      refine seq_g0 rfl rfl h12 (stp_fldP tyF50_0 rfl) ?_
      refine seq_g1 rfl rfl h12 (stp_load1 tyS9 rfl rfl) rfl ?_
      refine seq_g0 rfl rfl h12 (stp_move (.dat _) rfl) ?_
      refine seq_g0 rfl rfl h12 (stp_move (.dat _) rfl) ?_
      refine seq_g0 rfl rfl h12 (stp_sub rfl rfl (by omega)) ?_
      obtain ⟨x14, h15, H⟩ := bnd H
      refine seq_g0 rfl rfl h12 (t_idxI tyE26 (fun _ => rfl) rfl rfl h15) ?_
      refine seq_g0 rfl rfl h12 (stp_fldE tyF50_0 rfl) ?_
      refine seq_g0 rfl rfl h12 (stp_loadE1 tyS9 rfl (map_at (at_some h15).2) rfl) ?_
      refine seq_g0 rfl rfl h12 (stp_sleq rfl rfl) ?_
      refine seq_run0 (stp_pick_t rfl (bTT h13) rfl) ?_
      refine qe rfl ?_
      refine ⟨rfl, ?_⟩
      exact ⟨(Op.bytesLess x6.Key x14.Key || x6.Key == x14.Key), H, ⟨rfl, rfl, rfl, rfl, rfl, rfl, trivial⟩, ⟨rfl, trivial⟩⟩
     ·have h16 := un2 h12
      replace H := iff_ h16 H
      refine seq_skip rfl rfl h12 ?_
      refine seq_skip rfl rfl h12 ?_
      refine seq_skip rfl rfl h12 ?_
      refine seq_skip rfl rfl h12 ?_
      refine seq_skip rfl rfl h12 ?_
      refine seq_skip rfl rfl h12 ?_
      refine seq_skip rfl rfl h12 ?_
      refine seq_skip rfl rfl h12 ?_
      refine seq_skip rfl rfl h12 ?_
      refine seq_run0 (stp_pick_f rfl (bFF h16) rfl) ?_
      refine qe rfl ?_
      refine ⟨rfl, ?_⟩
      exact ⟨false, H, ⟨rfl, rfl, rfl, rfl, rfl, rfl, trivial⟩, ⟨rfl, trivial⟩⟩
    ·rintro v17 H
     replace H : upstream_CheckInstances_J2 x6 v17 = some q4 := H
     unfold upstream_CheckInstances_J2 at H
     refine awp_cond _ rfl (fun h18 => ?_) (fun h18 => ?_)
     ·replace H := ift h18 H
      refine awp_seq ?_
      refine awp_plain hN rfl ?_
      refine qe rfl ?_
      refine awp_ret ?_
      replace H := retl H hq4
      cases H
      exact ⟨trivial, .inl rfl, trivial⟩
     ·replace H := iff_ h18 H
      refine awp_seq ?_
      refine awp_plain hN rfl ?_
      refine seq_run0 (stp_fldP tyF50_1 rfl) ?_
      refine seq_run1 (stp_load1 tyS3 rfl rfl) rfl ?_
      obtain ⟨r19, h20, H⟩ := bnd H
      refine seq_run0 (stp_call (k_kit_Outside x6.Weight 1 100 r19 h20) ⟨.inl rfl, .inl rfl, .inl rfl, trivial⟩) ?_
      refine qe rfl ?_
      refine awp_cond _ rfl (fun h21 => ?_) (fun h21 => ?_)
      ·replace H := ift h21 H
       refine awp_seq ?_
       refine awp_plain hN rfl ?_
       refine qe rfl ?_
       refine awp_ret ?_
       replace H := retl H hq4
       cases H
       exact ⟨trivial, .inl rfl, trivial⟩
      ·replace H := iff_ h21 H
       refine awp_skip ?_
       refine awp_plain hN rfl ?_
       refine seq_run0 (stp_add rfl rfl (by omega)) ?_
       refine qd rfl ?_
       exact ⟨_, backl H, ⟨rfl, rfl, rfl, rfl, trivial⟩, trivial⟩
theorem k_upstream_outliersFault (o1 : S_api_Outliers) (r : (Int)) (H : m_upstream_outliersFault o1 = some r) : Fn Try.prog 27 [vagg (C_api_Outliers o1)] (resOf [vint r]) := by
 refine ⟨by kernel_rfl, pure_of (us := [vint r]) Try.func27 rfl rfl rfl rfl fun X hN => ?_⟩
 unfold m_upstream_outliersFault at H
 refine awp_seq ?_
 refine awp_plain hN rfl ?_
 refine seq_run2 (stp_boxA 1 rfl) rfl ?_
 refine qe rfl ?_
 refine awp_seq ?_
 refine awp_joinE (ι := Bool) (fun i => [(22, .dat (vbool i))]) (fun i => []) (fun i => upstream_outliersFault_J1 i = some r) (fun i => rfl) ?_ ?_
 ·skip
  refine awp_plain hN rfl ?_
  refine seq_run0 (stp_fldP tyF29_0 rfl) ?_
  refine seq_run1 (stp_load1 tyS3 rfl rfl) rfl ?_
  obtain ⟨r2, h3, H⟩ := bnd H
  refine seq_run0 (stp_call (k_kit_Outside o1.Fails 1 100 r2 h3) ⟨.inl rfl, .inl rfl, .inl rfl, trivial⟩) ?_
  refine qd rfl ?_
  refine seq_split (j := 3) rfl rfl (fun h4 => ?_) (fun h4 => ?_) rfl
  ·have h5 := un3 h4
   replace H := iff_ h5 H
   refine seq_g0 rfl rfl h4 (stp_fldP tyF29_1 rfl) ?_
   refine seq_g1 rfl rfl h4 (stp_load1 tyS3 rfl rfl) rfl ?_
   refine seq_g0 rfl rfl h4 (stp_fldP tyF29_2 rfl) ?_
   refine seq_g1 rfl rfl h4 (stp_load1 tyS3 rfl rfl) rfl ?_
   obtain ⟨r6, h7, H⟩ := bnd H
   refine seq_g0 rfl rfl h4 (stp_call (k_kit_Outside o1.Base 1 o1.Most r6 h7) ⟨.inl rfl, .inl rfl, .inl rfl, trivial⟩) ?_
   refine seq_run0 (stp_pick_f rfl (bFF h5) rfl) ?_
   refine qd rfl ?_
   refine seq_split (j := 10) rfl rfl (fun h8 => ?_) (fun h8 => ?_) rfl
   ·have h9 := un3 h8
    replace H := iff_ h9 H
    refine seq_g0 rfl rfl h8 (stp_fldP tyF29_2 rfl) ?_
    refine seq_g1 rfl rfl h8 (stp_load1 tyS3 rfl rfl) rfl ?_
    refine seq_g0 rfl rfl h8 (stp_gtr rfl rfl) ?_
    refine seq_run0 (stp_pick_f rfl (bFF h9) rfl) ?_
    refine qd rfl ?_
    refine seq_split (j := 15) rfl rfl (fun h10 => ?_) (fun h10 => ?_) rfl
    ·have h11 := un3 h10
     replace H := iff_ h11 H
     refine seq_g0 rfl rfl h10 (stp_fldP tyF29_3 rfl) ?_
     refine seq_g1 rfl rfl h10 (stp_load1 tyS3 rfl rfl) rfl ?_
     obtain ⟨r12, h13, H⟩ := bnd H
     refine seq_g0 rfl rfl h10 (stp_call (k_kit_Outside o1.Share 0 1000 r12 h13) ⟨.inl rfl, .inl rfl, .inl rfl, trivial⟩) ?_
     refine seq_run0 (stp_pick_f rfl (bFF h11) rfl) ?_
     exact ⟨r12, H, ⟨rfl, trivial⟩, trivial⟩
    ·have h14 := un4 h10
     replace H := ift h14 H
     refine seq_skip rfl rfl h10 ?_
     refine seq_skip rfl rfl h10 ?_
     refine seq_skip rfl rfl h10 ?_
     refine seq_run0 (stp_pick_t rfl (bTT h14) rfl) ?_
     exact ⟨true, H, ⟨rfl, trivial⟩, trivial⟩
   ·have h15 := un4 h8
    replace H := ift h15 H
    refine seq_skip rfl rfl h8 ?_
    refine seq_skip rfl rfl h8 ?_
    refine seq_skip rfl rfl h8 ?_
    refine seq_run0 (stp_pick_t rfl (bTT h15) rfl) ?_
    refine qd rfl ?_
    refine seq_skip rfl rfl rfl ?_
    refine seq_skip rfl rfl rfl ?_
    refine seq_skip rfl rfl rfl ?_
    refine seq_run0 (stp_pick_t rfl rfl rfl) ?_
    exact ⟨true, H, ⟨rfl, trivial⟩, trivial⟩
  ·have h16 := un4 h4
   replace H := ift h16 H
   refine seq_skip rfl rfl h4 ?_
   refine seq_skip rfl rfl h4 ?_
   refine seq_skip rfl rfl h4 ?_
   refine seq_skip rfl rfl h4 ?_
   refine seq_skip rfl rfl h4 ?_
   refine seq_run0 (stp_pick_t rfl (bTT h16) rfl) ?_
   refine qd rfl ?_
   refine seq_skip rfl rfl rfl ?_
   refine seq_skip rfl rfl rfl ?_
   refine seq_skip rfl rfl rfl ?_
   refine seq_run0 (stp_pick_t rfl rfl rfl) ?_
   refine qd rfl ?_
   refine seq_skip rfl rfl rfl ?_
   refine seq_skip rfl rfl rfl ?_
   refine seq_skip rfl rfl rfl ?_
   refine seq_run0 (stp_pick_t rfl rfl rfl) ?_
   exact ⟨true, H, ⟨rfl, trivial⟩, trivial⟩
 ·rintro v17 H
  replace H : upstream_outliersFault_J1 v17 = some r := H
  unfold upstream_outliersFault_J1 at H
  refine awp_cond _ rfl (fun h18 => ?_) (fun h18 => ?_)
  ·replace H := ift h18 H
   refine awp_seq ?_
   refine awp_plain hN rfl ?_
   refine qe rfl ?_
   refine awp_ret ?_
   cases H
   exact ⟨trivial, .inl rfl, trivial⟩
  ·replace H := iff_ h18 H
   refine awp_skip ?_
   refine awp_seq ?_
   refine awp_plain hN rfl ?_
   refine qe rfl ?_
   refine awp_ret ?_
   cases H
   exact ⟨trivial, .inl rfl, trivial⟩
theorem k_kit_IsMoment (n1 : Int) (r : (Bool)) (H : m_kit_IsMoment n1 = some r) : Fn Try.prog 28 [vint n1] (resOf [vbool r]) := by
 refine ⟨by kernel_rfl, pure_of (us := [vbool r]) Try.func28 rfl rfl rfl rfl fun X hN => ?_⟩
 unfold m_kit_IsMoment at H
 refine awp_seq ?_
 refine awp_plain hN rfl ?_
 refine qe rfl ?_
 refine awp_seq ?_
 refine awp_plain hN rfl ?_
 refine qd rfl ?_
 refine seq_run0 (stp_geq rfl rfl) ?_
 refine qd rfl ?_
 refine seq_aT rfl rfl (fun hc => stp_move (.dat _) rfl) ?_
 refine seq_aT rfl rfl (fun hc => stp_lss (cnd (c := (decide (0 ≤ n1))) hc) rfl) ?_
 refine seq_run0 (stp_pick_and rfl (fun hb => (cnd (c := (decide (0 ≤ n1))) hb)) rfl) ?_
 refine qe rfl ?_
 refine awp_ret ?_
 cases H
 exact ⟨trivial, .inl rfl, trivial⟩
theorem k_slices_BinarySearchFunc_L_api_Instance_api_Instance_string_ (x1 : (List S_api_Instance)) (target2 : Bs) (p2 : S_api_Instance → Bs → Option (Int)) (fv2 : Nat) (us2 : List V) (hp2 : ∀ a0 a1 r, p2 a0 a1 = some r → Fn Try.prog fv2 ([vagg (C_api_Instance a0), vstr a1] ++ us2) (resOf [vint r])) (r : (Int × Bool)) (H : m_slices_BinarySearchFunc_L_api_Instance_api_Instance_string_ x1 target2 p2 = some r) : Fn Try.prog 44 [vlst (List.map C_api_Instance x1), vstr target2, vfn fv2 us2] (resOf [vint r.1, vbool r.2]) := by
 refine ⟨by kernel_rfl, pure_of (us := [vint r.1, vbool r.2]) Try.func44 rfl rfl rfl rfl fun X hN => ?_⟩
 unfold m_slices_BinarySearchFunc_L_api_Instance_api_Instance_string_ at H
 refine awp_seq ?_
 refine awp_plain hN rfl ?_
 refine qe rfl ?_
 refine qe rfl ?_
 refine awp_seq ?_
 refine awp_plain hN rfl ?_
 refine qd rfl ?_
 refine seq_run0 (t_len tyU26 rfl) ?_
 refine qe rfl ?_
 refine awp_seq ?_
 refine awp_plain hN rfl ?_
 refine qd rfl ?_
 refine qe rfl ?_
 refine qe rfl ?_
 refine awp_joinE (ι := Int) (fun i => [(0, .dat (vlst (List.map C_api_Instance x1))), (1, .dat (vstr target2)), (2, .dat (vfn fv2 us2)), (8, .dat (vint (x1.length : Int))), (9, .dat (vint i))]) (fun i => []) (fun i => slices_BinarySearchFunc_L_api_Instance_api_Instance_string__J1 x1 target2 p2 i = some r) (fun i => rfl) ?_ ?_
 ·skip
  refine awp_block ?_
  refine awp_iter (fun (s : Int × Int) => [(0, .dat (vlst (List.map C_api_Instance x1))), (1, .dat (vstr target2)), (2, .dat (vfn fv2 us2)), (8, .dat (vint (x1.length : Int))), (9, .dat (vint s.1)), (10, .dat (vint s.2))]) (fun (s : Int × Int) => []) (0, (x1.length : Int)) H ⟨rfl, rfl, rfl, rfl, rfl, rfl, trivial⟩ trivial (fun _ => rfl) ?_
  rintro ⟨i3, j4⟩ q5 H hq5
  replace H : slices_BinarySearchFunc_L_api_Instance_api_Instance_string__L2 x1 target2 p2 i3 j4 = some q5 := H
  unfold slices_BinarySearchFunc_L_api_Instance_api_Instance_string__L2 at H
  refine awp_seq ?_
  refine awp_seq ?_
  refine awp_plain hN rfl ?_
  refine qd rfl ?_
  refine qd rfl ?_
  refine seq_run0 (stp_lss rfl rfl) ?_
  refine awp_cond _ rfl (fun h6 => ?_) (fun h6 => ?_)
  ·replace H := ift h6 H
   refine awp_skip ?_
   refine awp_block ?_
   refine awp_seq ?_
   refine awp_plain hN rfl ?_
   refine qd rfl ?_
   refine qd rfl ?_
   refine seq_run0 (stp_wrap _ rfl rfl (.inl ⟨rfl, rfl⟩)) ?_
   refine seq_run0 (stp_conv tyU3 tyU89 rfl) ?_
   refine seq_run0 (stp_dat (stp_shr rfl rfl (by decide)) rfl) ?_
   refine seq_run0 (stp_conv tyU89 tyU3 rfl) ?_
   refine qe rfl ?_
   refine awp_seq ?_
   refine awp_plain hN rfl ?_
   refine qd rfl ?_
   refine qd rfl ?_
   refine qd rfl ?_
   obtain ⟨x7, h8, H⟩ := bnd H
   refine seq_run0 (t_idxI tyE26 (fun _ => rfl) rfl rfl h8) ?_
   refine seq_run0 (stp_loadEA tyS50 rfl (map_at (at_some h8).2) rfl) ?_
   refine qd rfl ?_
   obtain ⟨r9, h10, H⟩ := bnd H
   refine seq_run0 (stp_callv (hp2 x7 target2 r9 h10) rfl ⟨.inl rfl, .inl rfl, trivial⟩) ?_
   refine seq_run0 (stp_lss rfl rfl) ?_
   refine awp_cond _ rfl (fun h11 => ?_) (fun h11 => ?_)
   ·replace H := ift h11 H
    refine awp_plain hN rfl ?_
    refine qd rfl ?_
    refine seq_run0 (stp_wrap _ rfl rfl (.inl ⟨rfl, rfl⟩)) ?_
    refine qe rfl ?_
    exact ⟨_, backl H, ⟨rfl, rfl, rfl, rfl, rfl, rfl, trivial⟩, trivial⟩
   ·replace H := iff_ h11 H
    refine awp_plain hN rfl ?_
    refine qd rfl ?_
    refine qe rfl ?_
    exact ⟨_, backl H, ⟨rfl, rfl, rfl, rfl, rfl, rfl, trivial⟩, trivial⟩
  ·replace H := iff_ h6 H
   refine awp_exit ?_
   replace H := outl H hq5
   exact ⟨i3, H, ⟨rfl, rfl, rfl, rfl, rfl, trivial⟩, trivial⟩
 ·rintro i12 H
  replace H : slices_BinarySearchFunc_L_api_Instance_api_Instance_string__J1 x1 target2 p2 i12 = some r := H
  unfold slices_BinarySearchFunc_L_api_Instance_api_Instance_string__J1 at H
  refine awp_joinE (ι := Bool) (fun i => [(6, .dat (vint i12)), (7, .dat (vbool i))]) (fun i => []) (fun i => slices_BinarySearchFunc_L_api_Instance_api_Instance_string__J3 i12 i = some r) (fun i => rfl) ?_ ?_
  ·skip
   refine awp_plain hN rfl ?_
   refine qd rfl ?_
   refine qd rfl ?_
   refine qd rfl ?_
   refine seq_run0 (stp_lss rfl rfl) ?_
   refine qd rfl ?_
   refine seq_split (j := 4) rfl rfl (fun h13 => ?_) (fun h13 => ?_) rfl
   ·have h14 := un1 h13
    replace H := ift h14 H
    refine seq_g0 rfl rfl h13 (stp_move (.dat _) rfl) ?_
    refine seq_g0 rfl rfl h13 (stp_move (.dat _) rfl) ?_
    refine seq_g0 rfl rfl h13 (stp_move (.dat _) rfl) ?_
    obtain ⟨x15, h16, H⟩ := bnd H
    refine seq_g0 rfl rfl h13 (t_idxI tyE26 (fun _ => rfl) rfl rfl h16) ?_
    refine seq_g0 rfl rfl h13 (stp_loadEA tyS50 rfl (map_at (at_some h16).2) rfl) ?_
    refine seq_g0 rfl rfl h13 (stp_move (.dat _) rfl) ?_
    obtain ⟨r17, h18, H⟩ := bnd H
    refine seq_g0 rfl rfl h13 (stp_callv (hp2 x15 target2 r17 h18) rfl ⟨.inl rfl, .inl rfl, trivial⟩) ?_
    refine seq_g0 rfl rfl h13 (stp_eql rfl rfl) ?_
    refine seq_run0 (stp_pick_t rfl (bTT h14) rfl) ?_
    refine qe rfl ?_
    refine qe rfl ?_
    exact ⟨decide (r17 = 0), H, ⟨rfl, rfl, trivial⟩, trivial⟩
   ·have h19 := un2 h13
    replace H := iff_ h19 H
    refine seq_skip rfl rfl h13 ?_
    refine seq_skip rfl rfl h13 ?_
    refine seq_skip rfl rfl h13 ?_
    refine seq_skip rfl rfl h13 ?_
    refine seq_skip rfl rfl h13 ?_
    refine seq_skip rfl rfl h13 ?_
    refine seq_skip rfl rfl h13 ?_
    refine seq_skip rfl rfl h13 ?_
    refine seq_run0 (stp_pick_f rfl (bFF h19) rfl) ?_
    refine qe rfl ?_
    refine qe rfl ?_
    exact ⟨false, H, ⟨rfl, rfl, trivial⟩, trivial⟩
  ·rintro v20 H
   replace H : slices_BinarySearchFunc_L_api_Instance_api_Instance_string__J3 i12 v20 = some r := H
   unfold slices_BinarySearchFunc_L_api_Instance_api_Instance_string__J3 at H
   refine awp_ret ?_
   cases H
   exact ⟨trivial, .inl rfl, .inl rfl, trivial⟩
theorem k_strings_Compare (a b : Bs) (r : Int) (H : m_strings_Compare a b = some r) : Fn Try.prog 46 [vstr a, vstr b] (resOf [vint r]) := by
 cases H
 refine fn_of_calls (by kernel_rfl) fun M w vs h => ?_
 have h1 := Ts_vals (us := [.string ⟨a.toArray⟩, .string ⟨b.toArray⟩]) h
 subst h1
 refine (Try.strings_Compare ⟨a.toArray⟩ ⟨b.toArray⟩ w).mono ?_
 rintro e w' ⟨rfl, rfl⟩
 exact ⟨_, rfl, rfl, Kp.refl _ _⟩
theorem k_upstream_place_1 (x1 : S_api_Instance) (k2 : Bs) (r : (Int)) (H : m_upstream_place_1 x1 k2 = some r) : Fn Try.prog 45 [vagg (C_api_Instance x1), vstr k2] (resOf [vint r]) := by
 refine ⟨by kernel_rfl, pure_of (us := [vint r]) Try.func45 rfl rfl rfl rfl fun X hN => ?_⟩
 unfold m_upstream_place_1 at H
 refine awp_seq ?_
 refine awp_plain hN rfl ?_
 refine seq_run2 (stp_boxA 1 rfl) rfl ?_
 refine qe rfl ?_
 refine awp_seq ?_
 refine awp_plain hN rfl ?_
 refine seq_run0 (stp_fldP tyF50_0 rfl) ?_
 refine seq_run1 (stp_load1 tyS9 rfl rfl) rfl ?_
 refine qd rfl ?_
 obtain ⟨r3, h4, H⟩ := bnd H
 refine seq_run0 (stp_call (k_strings_Compare x1.Key k2 r3 h4) ⟨.inl rfl, .inl rfl, trivial⟩) ?_
 refine qe rfl ?_
 refine awp_ret ?_
 cases H
 exact ⟨trivial, .inl rfl, trivial⟩
theorem k_upstream_place (l1 : (List S_api_Instance)) (key2 : Bs) (r : (Int × Bool)) (H : m_upstream_place l1 key2 = some r) : Fn Try.prog 29 [vlst (List.map C_api_Instance l1), vstr key2] (resOf [vint r.1, vbool r.2]) := by
 refine ⟨by kernel_rfl, pure_of (us := [vint r.1, vbool r.2]) Try.func29 rfl rfl rfl rfl fun X hN => ?_⟩
 unfold m_upstream_place at H
 refine awp_seq ?_
 refine awp_plain hN rfl ?_
 refine qe rfl ?_
 refine qe rfl ?_
 refine awp_seq ?_
 refine awp_plain hN rfl ?_
 refine qd rfl ?_
 refine qd rfl ?_
 obtain ⟨r3, h4, H⟩ := bnd H
 refine seq_run0 (stp_callW (k_slices_BinarySearchFunc_L_api_Instance_api_Instance_string_ l1 key2 (fun (a0 : S_api_Instance) (a1 : Bs) => m_upstream_place_1 a0 a1) 45 [] (fun a0 a1 r h => k_upstream_place_1 a0 a1 r h) r3 h4) ⟨.inl (.inl rfl), .inl (.inl rfl), .inr ⟨_, rfl, rfl⟩, trivial⟩) ?_
 refine seq_run0 (stp_ext rfl rfl) ?_
 refine seq_run0 (stp_ext rfl rfl) ?_
 refine qe rfl ?_
 refine qe rfl ?_
 refine awp_ret ?_
 cases H
 exact ⟨trivial, .inl rfl, .inl rfl, trivial⟩
theorem k_upstream_CheckResults (l1 : (List S_api_Instance)) (r2 : (List S_api_Result)) (r : (Int)) (H : m_upstream_CheckResults l1 r2 = some r) : Fn Try.prog 10 [vlst (List.map C_api_Instance l1), vlst (List.map C_api_Result r2)] (resOf [vint r]) := by
 refine ⟨by kernel_rfl, pure_of (us := [vint r]) Try.func10 rfl rfl rfl rfl fun X hN => ?_⟩
 unfold m_upstream_CheckResults at H
 refine awp_seq ?_
 refine awp_plain hN rfl ?_
 refine qe rfl ?_
 refine awp_seq ?_
 refine awp_seq ?_
 refine awp_plain hN rfl ?_
 refine qd rfl ?_
 obtain ⟨r3, h4, H⟩ := bnd H
 refine seq_run0 (stp_call (k_upstream_CheckInstances l1 r3 h4) ⟨.inl rfl, trivial⟩) ?_
 refine qe rfl ?_
 refine awp_seq ?_
 refine awp_plain hN rfl ?_
 refine qd rfl ?_
 refine seq_run0 (stp_neq rfl rfl) ?_
 refine awp_cond _ rfl (fun h5 => ?_) (fun h5 => ?_)
 ·replace H := ift h5 H
  refine awp_seq ?_
  refine awp_plain hN rfl ?_
  refine qd rfl ?_
  refine qe rfl ?_
  refine awp_ret ?_
  cases H
  exact ⟨trivial, .inl rfl, trivial⟩
 ·replace H := iff_ h5 H
  refine awp_skip ?_
  refine awp_seq ?_
  refine awp_seq ?_
  refine awp_plain hN rfl ?_
  refine qd rfl ?_
  refine seq_run0 (t_len tyU32 rfl) ?_
  refine seq_run0 (stp_gtr rfl rfl) ?_
  refine awp_cond _ rfl (fun h6 => ?_) (fun h6 => ?_)
  ·replace H := ift h6 H
   refine awp_seq ?_
   refine awp_plain hN rfl ?_
   refine qe rfl ?_
   refine awp_ret ?_
   cases H
   exact ⟨trivial, .inl rfl, trivial⟩
  ·replace H := iff_ h6 H
   refine awp_skip ?_
   refine awp_seq ?_
   refine awp_seq ?_
   refine awp_plain hN rfl ?_
   refine qd rfl ?_
   refine seq_run0 (t_len tyU32 rfl) ?_
   refine qd rfl ?_
   refine awp_block ?_
   obtain ⟨h9, H⟩ := gif H
   refine awp_forL (fun (k7 : Nat) (s : Unit) => [(0, .dat (vlst (List.map C_api_Instance l1))), (1, .dat (vlst (List.map C_api_Result r2))), (18, .dat (vlst (List.map C_api_Result r2))), (19, .dat (vint (r2.length : Int))), (20, .dat (vint (k7 : Int)))]) (fun (k7 : Nat) (s : Unit) => []) () H ⟨rfl, rfl, rfl, rfl, rfl, trivial⟩ trivial (fun _ _ => rfl) ?_ ?_
   ·rintro ⟨⟩ H
    replace H : upstream_CheckResults_E1 = some r := H
    unfold upstream_CheckResults_E1 at H
    refine awp_seq ?_
    refine awp_plain hN rfl ?_
    refine seq_run0 (stp_lss rfl rfl) ?_
    refine awp_seq ?_
    refine awp_cond _ rfl (fun h => (lt_t h).elim) (fun h => ?_)
    refine awp_exit ?_
    refine awp_seq ?_
    refine awp_plain hN rfl ?_
    refine qe rfl ?_
    refine awp_ret ?_
    cases H
    exact ⟨trivial, .inl rfl, trivial⟩
   ·rintro k7 x10 ⟨⟩ q8 h11 h12 H hq8
    replace H : upstream_CheckResults_L1 l1 r2 k7 x10 = some q8 := H
    unfold upstream_CheckResults_L1 at H
    refine awp_seq ?_
    refine awp_plain hN rfl ?_
    refine seq_run0 (stp_lss rfl rfl) ?_
    refine awp_seq ?_
    refine awp_cond _ rfl (fun h => ?_) (fun h => (lt_f h11 h).elim)
    refine awp_skip ?_
    refine awp_seq ?_
    refine awp_block ?_
    refine awp_seq ?_
    refine awp_plain hN rfl ?_
    refine qd rfl ?_
    refine seq_run0 (t_idx tyE32 (fun _ => rfl) rfl rfl h12) ?_
    refine seq_run0 (stp_loadEA tyS56 rfl (map_at h12) rfl) ?_
    refine seq_run2 (stp_alloc 1 tyZ56 rfl) rfl ?_
    refine qe rfl ?_
    refine seq_run2 (stp_storeW tyS56 rfl rfl rfl rfl) rfl ?_
    refine awp_seq ?_
    refine awp_seq ?_
    refine awp_plain hN rfl ?_
    refine seq_run0 (stp_fldP tyF56_0 rfl) ?_
    refine seq_run1 (stp_load1 tyS3 rfl rfl) rfl ?_
    obtain ⟨r13, h14, H⟩ := bnd H
    refine seq_run0 (stp_call (k_kit_IsMoment x10.At r13 h14) ⟨.inl rfl, trivial⟩) ?_
    refine seq_run0 (stp_not rfl) ?_
    refine awp_cond _ rfl (fun h15 => ?_) (fun h15 => ?_)
    ·replace H := ift h15 H
     refine awp_seq ?_
     refine awp_plain hN rfl ?_
     refine qe rfl ?_
     refine awp_ret ?_
     replace H := retl H hq8
     cases H
     exact ⟨trivial, .inl rfl, trivial⟩
    ·replace H := iff_ h15 H
     refine awp_skip ?_
     refine awp_seq ?_
     refine awp_seq ?_
     refine awp_plain hN rfl ?_
     refine qd rfl ?_
     refine seq_run0 (stp_fldP tyF56_1 rfl) ?_
     refine seq_run1 (stp_load1 tyS9 rfl rfl) rfl ?_
     obtain ⟨r16, h17, H⟩ := bnd H
     refine seq_run0 (stp_call (k_upstream_place l1 x10.Instance r16 h17) ⟨.inl rfl, .inl rfl, trivial⟩) ?_
     refine qd rfl ?_
     refine seq_run0 (stp_ext rfl rfl) ?_
     refine seq_run0 (stp_ext rfl rfl) ?_
     refine qe rfl ?_
     refine qe rfl ?_
     refine awp_seq ?_
     refine awp_plain hN rfl ?_
     refine qd rfl ?_
     refine seq_run0 (stp_not rfl) ?_
     refine awp_cond _ rfl (fun h18 => ?_) (fun h18 => ?_)
     ·replace H := ift h18 H
      refine awp_seq ?_
      refine awp_plain hN rfl ?_
      refine qe rfl ?_
      refine awp_ret ?_
      replace H := retl H hq8
      cases H
      exact ⟨trivial, .inl rfl, trivial⟩
     ·replace H := iff_ h18 H
      refine awp_skip ?_
      refine awp_seq ?_
      refine awp_joinE (ι := Bool) (fun i => [(0, .dat (vlst (List.map C_api_Instance l1))), (1, .dat (vlst (List.map C_api_Result r2))), (6, .dat (vint (k7 : Int))), (7, .ptr 1 0), (18, .dat (vlst (List.map C_api_Result r2))), (19, .dat (vint (r2.length : Int))), (20, .dat (vint (k7 : Int))), (45, .dat (vbool i))]) (fun i => [(1, .box none 56 [.dat (vint x10.At), .dat (vstr x10.Instance), .dat (vint x10.Status)])]) (fun i => upstream_CheckResults_J2 r2 k7 x10 i = some q8) (fun i => rfl) ?_ ?_
      ·skip
       refine awp_plain hN rfl ?_
       refine seq_run0 (stp_fldP tyF56_2 rfl) ?_
       refine seq_run1 (stp_load1 tyS3 rfl rfl) rfl ?_
       refine seq_run0 (stp_neq rfl rfl) ?_
       refine qd rfl ?_
       refine seq_split (j := 3) rfl rfl (fun h19 => ?_) (fun h19 => ?_) rfl
       ·have h20 := un1 h19
        replace H := ift h20 H
        refine seq_g0 rfl rfl h19 (stp_fldP tyF56_2 rfl) ?_
        refine seq_g1 rfl rfl h19 (stp_load1 tyS3 rfl rfl) rfl ?_
        obtain ⟨r21, h22, H⟩ := bnd H
        refine seq_g0 rfl rfl h19 (stp_call (k_kit_Outside x10.Status 100 599 r21 h22) ⟨.inl rfl, .inl rfl, .inl rfl, trivial⟩) ?_
        refine seq_run0 (stp_pick_t rfl (bTT h20) rfl) ?_
        exact ⟨r21, H, ⟨rfl, rfl, rfl, rfl, rfl, rfl, rfl, rfl, trivial⟩, ⟨rfl, trivial⟩⟩
       ·have h23 := un2 h19
        replace H := iff_ h23 H
        refine seq_skip rfl rfl h19 ?_
        refine seq_skip rfl rfl h19 ?_
        refine seq_skip rfl rfl h19 ?_
        refine seq_run0 (stp_pick_f rfl (bFF h23) rfl) ?_
        exact ⟨false, H, ⟨rfl, rfl, rfl, rfl, rfl, rfl, rfl, rfl, trivial⟩, ⟨rfl, trivial⟩⟩
      ·rintro v24 H
       replace H : upstream_CheckResults_J2 r2 k7 x10 v24 = some q8 := H
       unfold upstream_CheckResults_J2 at H
       refine awp_cond _ rfl (fun h25 => ?_) (fun h25 => ?_)
       ·replace H := ift h25 H
        refine awp_seq ?_
        refine awp_plain hN rfl ?_
        refine qe rfl ?_
        refine awp_ret ?_
        replace H := retl H hq8
        cases H
        exact ⟨trivial, .inl rfl, trivial⟩
       ·replace H := iff_ h25 H
        refine awp_skip ?_
        refine awp_joinE (ι := Bool) (fun i => [(0, .dat (vlst (List.map C_api_Instance l1))), (1, .dat (vlst (List.map C_api_Result r2))), (18, .dat (vlst (List.map C_api_Result r2))), (19, .dat (vint (r2.length : Int))), (20, .dat (vint (k7 : Int))), (58, .dat (vbool i))]) (fun i => []) (fun i => upstream_CheckResults_J3 i = some q8) (fun i => rfl) ?_ ?_
        ·skip
         refine awp_draw mixed hN rfl rfl ?_
         refine qd rfl ?_
         refine seq_run0 (stp_gtr rfl rfl) ?_
         refine qd rfl ?_
         refine seq_split (j := 2) rfl rfl (fun h26 => ?_) (fun h26 => ?_) rfl
         ·have h27 := un1 h26
          replace H := ift h27 H
          refine seq_g0 rfl rfl h26 (stp_fldP tyF56_0 rfl) ?_
          refine seq_g1 rfl rfl h26 (stp_load1 tyS3 rfl rfl) rfl ?_
          refine seq_g0 rfl rfl h26 (stp_move (.dat _) rfl) ?_
          refine seq_g0 rfl rfl h26 (stp_move (.dat _) rfl) ?_
          refine seq_g0 rfl rfl h26 (stp_sub rfl rfl (by omega)) ?_
          obtain ⟨x28, h29, H⟩ := bnd H
          refine seq_g0 rfl rfl h26 (t_idxI tyE32 (fun _ => rfl) rfl rfl h29) ?_
          refine seq_g0 rfl rfl h26 (stp_fldE tyF56_0 rfl) ?_
          refine seq_g0 rfl rfl h26 (stp_loadE1 tyS3 rfl (map_at (at_some h29).2) rfl) ?_
          refine seq_g0 rfl rfl h26 (stp_lss rfl rfl) ?_
          refine seq_run0 (stp_pick_t rfl (bTT h27) rfl) ?_
          refine ⟨rfl, ?_⟩
          exact ⟨decide (x10.At < x28.At), H, ⟨rfl, rfl, rfl, rfl, rfl, rfl, trivial⟩, trivial⟩
         ·have h30 := un2 h26
          replace H := iff_ h30 H
          refine seq_skip rfl rfl h26 ?_
          refine seq_skip rfl rfl h26 ?_
          refine seq_skip rfl rfl h26 ?_
          refine seq_skip rfl rfl h26 ?_
          refine seq_skip rfl rfl h26 ?_
          refine seq_skip rfl rfl h26 ?_
          refine seq_skip rfl rfl h26 ?_
          refine seq_skip rfl rfl h26 ?_
          refine seq_skip rfl rfl h26 ?_
          refine seq_run0 (stp_pick_f rfl (bFF h30) rfl) ?_
          refine ⟨rfl, ?_⟩
          exact ⟨false, H, ⟨rfl, rfl, rfl, rfl, rfl, rfl, trivial⟩, trivial⟩
        ·rintro v31 H
         replace H : upstream_CheckResults_J3 v31 = some q8 := H
         unfold upstream_CheckResults_J3 at H
         refine awp_cond _ rfl (fun h32 => ?_) (fun h32 => ?_)
         ·replace H := ift h32 H
          refine awp_seq ?_
          refine awp_plain hN rfl ?_
          refine qe rfl ?_
          refine awp_ret ?_
          replace H := retl H hq8
          cases H
          exact ⟨trivial, .inl rfl, trivial⟩
         ·replace H := iff_ h32 H
          refine awp_skip ?_
          refine awp_plain hN rfl ?_
          refine seq_run0 (stp_add rfl rfl (by omega)) ?_
          refine qd rfl ?_
          exact ⟨_, backl H, ⟨rfl, rfl, rfl, rfl, rfl, trivial⟩, trivial⟩
theorem ku_upstream_standings_isOut (s1 : S_upstream_standings) (i2 : Int) (v3 : Int) (r : (Bool)) (H : m_upstream_standings_isOut s1 i2 v3 = some r) : FnG Try.prog 31 [.ptr 0 0, .dat (vint i2), .dat (vint v3)] [(0, .box (some 0) 60 [.dat (vint s1.o_.Fails), .dat (vint s1.o_.Base), .dat (vint s1.o_.Most), .dat (vint s1.o_.Share), .row 1 s1.list_.length]), (1, .rowA undef 80 3 (List.map C_upstream_standing s1.list_))] (.dat (resOf [vbool r])) [(0, .box (some 0) 60 [.dat (vint s1.o_.Fails), .dat (vint s1.o_.Base), .dat (vint s1.o_.Most), .dat (vint s1.o_.Share), .row 1 s1.list_.length]), (1, .rowA undef 80 3 (List.map C_upstream_standing s1.list_))] := by
 refine fnG_of (by kernel_rfl) Try.func31 rfl rfl rfl rfl fun X A hN => ?_
 unfold m_upstream_standings_isOut at H
 refine awp_seq ?_
 refine awp_plain hN rfl ?_
 refine qe rfl ?_
 refine awp_seq ?_
 refine awp_plain hN rfl ?_
 refine qd rfl ?_
 refine seq_run0 (stp_move (.ptr _ _) rfl) ?_
 refine seq_run0 (stp_nilP rfl) ?_
 refine seq_run0 (stp_fldP tyF60_1 rfl) ?_
 refine seq_run1 (stp_load1 tyS58 rfl rfl) rfl ?_
 refine qd rfl ?_
 obtain ⟨x4, h5, H⟩ := bnd H
 refine seq_run1 (t_idxTI tyE58 rfl rfl rfl h5) rfl ?_
 refine seq_run0 (stp_fldR tyF80_1 rfl) ?_
 refine seq_run1 (t_loadT1 tyS3 rfl rfl (at_some h5).2 rfl) rfl ?_
 refine seq_run0 (stp_lss rfl rfl) ?_
 refine qe rfl ?_
 refine awp_ret ?_
 cases H
 exact ⟨trivial, [(6, .dat (vbool (decide (v3 < x4.until_))))], ⟨rfl, trivial⟩, ⟨rfl, rfl, trivial⟩, rfl, .inl ⟨[vbool (decide (v3 < x4.until_))], ⟨rfl, trivial⟩, rfl⟩⟩
theorem k_upstream_fails (status1 : Int) (r : (Bool)) (H : m_upstream_fails status1 = some r) : Fn Try.prog 47 [vint status1] (resOf [vbool r]) := by
 refine ⟨by kernel_rfl, pure_of (us := [vbool r]) Try.func47 rfl rfl rfl rfl fun X hN => ?_⟩
 unfold m_upstream_fails at H
 refine awp_seq ?_
 refine awp_plain hN rfl ?_
 refine qe rfl ?_
 refine awp_seq ?_
 refine awp_plain hN rfl ?_
 refine qd rfl ?_
 refine seq_run0 (stp_eql rfl rfl) ?_
 refine qd rfl ?_
 refine seq_aF rfl rfl (fun hc => stp_move (.dat _) rfl) ?_
 refine seq_aF rfl rfl (fun hc => stp_geq (cnd (c := (!(decide (status1 = 0)))) hc) rfl) ?_
 refine seq_run0 (stp_pick_or rfl rfl (fun hb => (cnd (c := (!(decide (status1 = 0)))) (notI hb)))) ?_
 refine qe rfl ?_
 refine awp_ret ?_
 cases H
 exact ⟨trivial, .inl rfl, trivial⟩
theorem k_upstream_doubled (n1 : Int) (times2 : Int) (most3 : Int) (r : (Int)) (H : m_upstream_doubled n1 times2 most3 = some r) : Fn Try.prog 48 [vint n1, vint times2, vint most3] (resOf [vint r]) := by
 refine ⟨by kernel_rfl, pure_of (us := [vint r]) Try.func48 rfl rfl rfl rfl fun X hN => ?_⟩
 unfold m_upstream_doubled at H
 refine awp_seq ?_
 refine awp_plain hN rfl ?_
 refine qe rfl ?_
 refine awp_joinE (ι := Int) (fun i => [(0, .dat (vint i)), (2, .dat (vint most3))]) (fun i => []) (fun i => upstream_doubled_J1 most3 i = some r) (fun i => rfl) ?_ ?_
 ·skip
  refine awp_seq ?_
  refine awp_plain hN rfl ?_
  refine qd rfl ?_
  refine qd rfl ?_
  refine awp_block ?_
  obtain ⟨h7, H⟩ := gif H
  refine awp_rng (fun (k5 : Nat) (s : Int) => [(0, .dat (vint s)), (2, .dat (vint most3)), (7, .dat (vint times2)), (8, .dat (vint (k5 : Int)))]) (fun (k5 : Nat) (s : Int) => []) n1 H ⟨rfl, rfl, rfl, rfl, trivial⟩ trivial (fun _ _ => rfl) ?_ ?_
  ·rintro n4 H
   replace H : upstream_doubled_E2 most3 n4 = some r := H
   unfold upstream_doubled_E2 at H
   refine awp_seq ?_
   refine awp_plain hN rfl ?_
   refine seq_run0 (stp_lss rfl rfl) ?_
   refine awp_seq ?_
   refine awp_cond _ rfl (fun h => (lt_tI h).elim) (fun h => ?_)
   refine awp_exit ?_
   exact ⟨n4, H, ⟨rfl, rfl, trivial⟩, trivial⟩
  ·rintro k5 n4 q6 h8 H hq6
   replace H : upstream_doubled_L2 most3 k5 n4 = some q6 := H
   unfold upstream_doubled_L2 at H
   refine awp_seq ?_
   refine awp_plain hN rfl ?_
   refine seq_run0 (stp_lss rfl rfl) ?_
   refine awp_seq ?_
   refine awp_cond _ rfl (fun h => ?_) (fun h => (lt_fI h8 h).elim)
   refine awp_skip ?_
   refine awp_seq ?_
   refine awp_block ?_
   refine awp_seq ?_
   refine awp_seq ?_
   refine awp_plain hN rfl ?_
   refine qd rfl ?_
   refine qd rfl ?_
   refine seq_run0 (stp_geq rfl rfl) ?_
   refine awp_cond _ rfl (fun h9 => ?_) (fun h9 => ?_)
   ·replace H := ift h9 H
    refine awp_exit ?_
    replace H := outl H hq6
    exact ⟨n4, H, ⟨rfl, rfl, trivial⟩, trivial⟩
   ·replace H := iff_ h9 H
    refine awp_skip ?_
    refine awp_plain hN rfl ?_
    refine qd rfl ?_
    refine seq_run0 (stp_wrap _ rfl rfl (.inr (.inr ⟨rfl, rfl⟩))) ?_
    refine qe rfl ?_
    refine awp_plain hN rfl ?_
    refine seq_run0 (stp_add rfl rfl (by omega)) ?_
    refine qd rfl ?_
    exact ⟨_, backl H, ⟨rfl, rfl, rfl, rfl, trivial⟩, trivial⟩
 ·rintro n10 H
  replace H : upstream_doubled_J1 most3 n10 = some r := H
  unfold upstream_doubled_J1 at H
  refine awp_seq ?_
  refine awp_plain hN rfl ?_
  refine qd rfl ?_
  refine qd rfl ?_
  refine seq_run0 (stp_min rfl rfl) ?_
  refine qe rfl ?_
  refine awp_ret ?_
  cases H
  exact ⟨trivial, .inl rfl, trivial⟩
end Go.Proofs.Ytecnjgefohnkpaa
