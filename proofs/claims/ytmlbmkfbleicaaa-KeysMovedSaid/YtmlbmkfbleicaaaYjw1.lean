/- Walks along the models. Printed by a program. -/
import Derived.Test.YtmlbmkfbleicaaaYjc
namespace Go.Proofs.Ytmlbmkfbleicaaa
open Go.RowKit
set_option linter.unusedVariables false
set_option maxRecDepth 20000
set_option maxHeartbeats 2000000
theorem k_gatemake_Below (x1 : Int) (n2 : Int) (r : (Int)) (H : m_gatemake_Below x1 n2 = some r) : Fn Try.prog 27 [vint x1, vint n2] (resOf [vint r]) := by
 refine ⟨by kernel_rfl, pure_of (us := [vint r]) Try.func27 rfl rfl rfl rfl fun X hN => ?_⟩
 unfold m_gatemake_Below at H
 refine awp_seq ?_
 refine awp_plain hN rfl ?_
 refine qe rfl ?_
 refine awp_seq ?_
 refine awp_seq ?_
 refine awp_plain hN rfl ?_
 refine qd rfl ?_
 refine seq_run0 (stp_lss rfl rfl) ?_
 refine awp_cond _ rfl (fun h3 => ?_) (fun h3 => ?_)
 ·replace H := ift h3 H
  refine awp_seq ?_
  refine awp_plain hN rfl ?_
  refine qe rfl ?_
  refine awp_ret ?_
  cases H
  exact ⟨trivial, .inl rfl, trivial⟩
 ·replace H := iff_ h3 H
  refine awp_skip ?_
  refine awp_seq ?_
  refine awp_plain hN rfl ?_
  refine qd rfl ?_
  refine qd rfl ?_
  obtain ⟨h4, H⟩ := gif H
  refine seq_run0 (stp_remT rfl rfl h4) ?_
  refine qe rfl ?_
  refine awp_joinE (ι := Int) (fun i => [(0, .dat (vint i))]) (fun i => []) (fun i => gatemake_Below_J1 i = some r) (fun i => rfl) ?_ ?_
  ·skip
   refine awp_seq ?_
   refine awp_plain hN rfl ?_
   refine qd rfl ?_
   refine seq_run0 (stp_lss rfl rfl) ?_
   refine awp_cond _ rfl (fun h5 => ?_) (fun h5 => ?_)
   ·replace H := ift h5 H
    refine awp_plain hN rfl ?_
    refine qd rfl ?_
    refine qd rfl ?_
    refine seq_run0 (stp_wrap _ rfl rfl (.inl ⟨rfl, rfl⟩)) ?_
    refine qe rfl ?_
    exact ⟨wr ((Int.tmod x1 n2) + n2), H, ⟨rfl, trivial⟩, trivial⟩
   ·replace H := iff_ h5 H
    refine awp_skip ?_
    exact ⟨(Int.tmod x1 n2), H, ⟨rfl, trivial⟩, trivial⟩
  ·rintro x6 H
   replace H : gatemake_Below_J1 x6 = some r := H
   unfold gatemake_Below_J1 at H
   refine awp_seq ?_
   refine awp_plain hN rfl ?_
   refine qd rfl ?_
   refine qe rfl ?_
   refine awp_ret ?_
   cases H
   exact ⟨trivial, .inl rfl, trivial⟩
theorem k_gatemake_Stream_Next (s1 : S_gatemake_Stream) (n2 : Int) (r : (Int × S_gatemake_Stream)) (H : m_gatemake_Stream_Next s1 n2 = some r) : Imp Try.prog 17 25 (C_gatemake_Stream s1) [vint n2] (resOf [vint r.1]) (C_gatemake_Stream r.2) := by
 refine imp_of (us := [vint r.1]) (cs' := (C_gatemake_Stream r.2)) (by kernel_rfl) Try.func17 rfl rfl rfl rfl fun X bl hN => ?_
 unfold m_gatemake_Stream_Next at H
 refine awp_seq ?_
 refine awp_plain hN rfl ?_
 refine qe rfl ?_
 refine awp_seq ?_
 refine awp_plain hN rfl ?_
 refine seq_run0 (stp_move (.ptr _ _) rfl) ?_
 refine seq_run0 (stp_nilP rfl) ?_
 refine seq_run0 (stp_fldP tyF25_1 rfl) ?_
 refine seq_run1 (stp_load1 tyS3 rfl rfl) rfl ?_
 refine seq_run0 (stp_wrap _ rfl rfl (.inl ⟨rfl, rfl⟩)) ?_
 refine seq_run0 (stp_nilP rfl) ?_
 refine seq_run0 (stp_fldP tyF25_1 rfl) ?_
 refine seq_run2 (stp_store1 tyS3 rfl rfl rfl rfl) rfl ?_
 refine awp_seq ?_
 refine awp_seq ?_
 refine awp_plain hN rfl ?_
 refine seq_run0 (stp_move (.ptr _ _) rfl) ?_
 refine seq_run0 (stp_nilP rfl) ?_
 refine seq_run0 (stp_fldP tyF25_0 rfl) ?_
 refine seq_run1 (stp_load1 tyS22 rfl rfl) rfl ?_
 refine seq_run0 (t_len tyU22 rfl) ?_
 refine seq_run0 (stp_eql rfl rfl) ?_
 refine awp_cond _ rfl (fun h3 => ?_) (fun h3 => ?_)
 ·replace H := ift h3 H
  refine awp_seq ?_
  refine awp_plain hN rfl ?_
  refine seq_run0 (stp_move (.ptr _ _) rfl) ?_
  refine seq_run0 (stp_nilP rfl) ?_
  refine seq_run0 (stp_fldP tyF25_1 rfl) ?_
  refine seq_run1 (stp_load1 tyS3 rfl rfl) rfl ?_
  refine seq_run0 (stp_wrap _ rfl rfl (.inr (.inr ⟨rfl, rfl⟩))) ?_
  refine qd rfl ?_
  obtain ⟨r4, h5, H⟩ := bnd H
  refine seq_run0 (stp_call (k_gatemake_Below (wr ((wr (s1.at_ + 1)) * 7919)) n2 r4 h5) ⟨.inl rfl, .inl rfl, trivial⟩) ?_
  refine qe rfl ?_
  refine awp_ret ?_
  cases H
  exact ⟨trivial, ⟨.inl rfl, trivial⟩, rfl⟩
 ·replace H := iff_ h3 H
  refine awp_skip ?_
  refine awp_seq ?_
  refine awp_draw mixed hN rfl rfl ?_
  refine seq_run0 (stp_move (.ptr _ _) rfl) ?_
  refine seq_run0 (stp_nilP rfl) ?_
  refine seq_run0 (stp_fldP tyF25_1 rfl) ?_
  refine seq_run1 (stp_load1 tyS3 rfl rfl) rfl ?_
  refine seq_run0 (stp_wrap _ rfl rfl (.inr (.inl ⟨rfl, rfl⟩))) ?_
  refine seq_run0 (stp_move (.ptr _ _) rfl) ?_
  refine seq_run0 (stp_nilP rfl) ?_
  refine seq_run0 (stp_fldP tyF25_0 rfl) ?_
  refine seq_run1 (stp_load1 tyS22 rfl rfl) rfl ?_
  refine seq_run0 (t_len tyU22 rfl) ?_
  obtain ⟨h6, H⟩ := gif H
  refine seq_run0 (stp_remT rfl rfl h6) ?_
  refine qe rfl ?_
  refine ⟨rfl, ?_⟩
  refine awp_seq ?_
  refine awp_draw mixed hN rfl rfl ?_
  refine seq_run0 (stp_move (.ptr _ _) rfl) ?_
  refine seq_run0 (stp_nilP rfl) ?_
  refine seq_run0 (stp_fldP tyF25_1 rfl) ?_
  refine seq_run1 (stp_load1 tyS3 rfl rfl) rfl ?_
  refine seq_run0 (stp_wrap _ rfl rfl (.inr (.inl ⟨rfl, rfl⟩))) ?_
  refine seq_run0 (stp_move (.ptr _ _) rfl) ?_
  refine seq_run0 (stp_nilP rfl) ?_
  refine seq_run0 (stp_fldP tyF25_0 rfl) ?_
  refine seq_run1 (stp_load1 tyS22 rfl rfl) rfl ?_
  refine seq_run0 (t_len tyU22 rfl) ?_
  obtain ⟨h7, H⟩ := gif H
  refine seq_run0 (stp_quo rfl rfl h7.1 h7.2) ?_
  refine qe rfl ?_
  refine ⟨rfl, ?_⟩
  refine awp_seq ?_
  refine awp_plain hN rfl ?_
  refine seq_run0 (stp_move (.ptr _ _) rfl) ?_
  refine seq_run0 (stp_nilP rfl) ?_
  refine seq_run0 (stp_fldP tyF25_0 rfl) ?_
  refine seq_run1 (stp_load1 tyS22 rfl rfl) rfl ?_
  refine qd rfl ?_
  obtain ⟨x8, h9, H⟩ := bnd H
  refine seq_run0 (t_idxI tyE22 (fun _ => rfl) rfl rfl h9) ?_
  refine seq_run0 (stp_loadE1 tyS3 rfl (map_at (at_some h9).2) rfl) ?_
  obtain ⟨r10, h11, H⟩ := bnd H
  refine seq_run0 (stp_call (k_gatemake_Below x8 1073741824 r10 h11) ⟨.inl rfl, .inl rfl, trivial⟩) ?_
  refine qd rfl ?_
  refine qd rfl ?_
  refine seq_run0 (stp_wrap _ rfl rfl (.inl ⟨rfl, rfl⟩)) ?_
  refine seq_run0 (stp_wrap _ rfl rfl (.inr (.inr ⟨rfl, rfl⟩))) ?_
  refine seq_run0 (stp_wrap _ rfl rfl (.inl ⟨rfl, rfl⟩)) ?_
  refine qd rfl ?_
  obtain ⟨r12, h13, H⟩ := bnd H
  refine seq_run0 (stp_call (k_gatemake_Below (wr (r10 + (wr (((wr ((wr (s1.at_ + 1)) - 1)) / (s1.L.length : Int)) * (wr (7919 + (Int.tmod (wr ((wr (s1.at_ + 1)) - 1)) (s1.L.length : Int)))))))) n2 r12 h13) ⟨.inl rfl, .inl rfl, trivial⟩) ?_
  refine qe rfl ?_
  refine awp_ret ?_
  cases H
  exact ⟨trivial, ⟨.inl rfl, trivial⟩, rfl⟩
theorem k_gatemake_Stream_Flip (s1 : S_gatemake_Stream) (n2 : Int) (r : (Bool × S_gatemake_Stream)) (H : m_gatemake_Stream_Flip s1 n2 = some r) : Imp Try.prog 7 25 (C_gatemake_Stream s1) [vint n2] (resOf [vbool r.1]) (C_gatemake_Stream r.2) := by
 refine imp_of (us := [vbool r.1]) (cs' := (C_gatemake_Stream r.2)) (by kernel_rfl) Try.func7 rfl rfl rfl rfl fun X bl hN => ?_
 unfold m_gatemake_Stream_Flip at H
 refine awp_seq ?_
 refine awp_plain hN rfl ?_
 refine qe rfl ?_
 refine awp_seq ?_
 refine awp_plain hN rfl ?_
 refine seq_run0 (stp_move (.ptr _ _) rfl) ?_
 refine qd rfl ?_
 obtain ⟨r3, h4, H⟩ := bnd H
 refine seq_run2 (stp_imp (k_gatemake_Stream_Next s1 n2 r3 h4) rfl ⟨.inl rfl, trivial⟩ rfl) rfl ?_
 refine seq_run0 (stp_eql rfl rfl) ?_
 refine qe rfl ?_
 refine awp_ret ?_
 cases H
 exact ⟨trivial, ⟨.inl rfl, trivial⟩, rfl⟩
theorem k_gatemake_Stream_Pick (s1 : S_gatemake_Stream) (l2 : (List Int)) (r : (Int × S_gatemake_Stream)) (H : m_gatemake_Stream_Pick s1 l2 = some r) : Imp Try.prog 26 25 (C_gatemake_Stream s1) [vlst (List.map C_int l2)] (resOf [vint r.1]) (C_gatemake_Stream r.2) := by
 refine imp_of (us := [vint r.1]) (cs' := (C_gatemake_Stream r.2)) (by kernel_rfl) Try.func26 rfl rfl rfl rfl fun X bl hN => ?_
 unfold m_gatemake_Stream_Pick at H
 refine awp_seq ?_
 refine awp_plain hN rfl ?_
 refine qe rfl ?_
 refine awp_seq ?_
 refine awp_plain hN rfl ?_
 refine qd rfl ?_
 refine seq_run0 (stp_move (.ptr _ _) rfl) ?_
 refine qd rfl ?_
 refine seq_run0 (t_len tyU22 rfl) ?_
 obtain ⟨r3, h4, H⟩ := bnd H
 refine seq_run2 (stp_imp (k_gatemake_Stream_Next s1 (l2.length : Int) r3 h4) rfl ⟨.inl rfl, trivial⟩ rfl) rfl ?_
 obtain ⟨x5, h6, H⟩ := bnd H
 refine seq_run0 (t_idxI tyE22 (fun _ => rfl) rfl rfl h6) ?_
 refine seq_run0 (stp_loadE1 tyS3 rfl (map_at (at_some h6).2) rfl) ?_
 refine qe rfl ?_
 refine awp_ret ?_
 cases H
 exact ⟨trivial, ⟨.inl rfl, trivial⟩, rfl⟩
theorem k_gatemake_Stream_RightInstances (s1 : S_gatemake_Stream) (r : ((List S_api_Instance) × S_gatemake_Stream)) (H : m_gatemake_Stream_RightInstances s1 = some r) : Imp Try.prog 16 25 (C_gatemake_Stream s1) [] (resOf [vlst (List.map C_api_Instance r.1)]) (C_gatemake_Stream r.2) := by
 refine imp_of (us := [vlst (List.map C_api_Instance r.1)]) (cs' := (C_gatemake_Stream r.2)) (by kernel_rfl) Try.func16 rfl rfl rfl rfl fun X bl hN => ?_
 unfold m_gatemake_Stream_RightInstances at H
 refine awp_seq ?_
 refine awp_plain hN rfl ?_
 refine qe rfl ?_
 refine awp_seq ?_
 refine awp_plain hN rfl ?_
 refine qe rfl ?_
 refine awp_seq ?_
 refine awp_seq ?_
 refine awp_plain hN rfl ?_
 refine seq_run0 (stp_dat (u' := vlst (List.map C_string [[105, 97], [105, 98], [105, 99], [105, 100]])) (stp_lit [[_], [_], [_], [_]] tyL28 ⟨rfl, .inl ⟨_, rfl, rfl, rfl⟩, rfl, rfl, .inl ⟨_, rfl, rfl, rfl⟩, rfl, rfl, .inl ⟨_, rfl, rfl, rfl⟩, rfl, rfl, .inl ⟨_, rfl, rfl, rfl⟩, rfl, trivial⟩ rfl rfl) rfl) ?_
 refine seq_run0 (t_len tyU28 rfl) ?_
 refine qd rfl ?_
 refine awp_block ?_
 refine awp_nilrow 3 1 45 2 rfl rfl rfl ?_
 obtain ⟨h7, H⟩ := gif H
 refine awp_forL (fun (k5 : Nat) (s : (List Int) × Int × (List S_api_Instance)) => [(0, .ptr 0 0), (3, .row 1 s.2.2.length), (6, .dat (vlst (List.map C_string ([[105, 97], [105, 98], [105, 99], [105, 100]])))), (7, .dat (vint (([[105, 97], [105, 98], [105, 99], [105, 100]]).length : Int))), (8, .dat (vint (k5 : Int)))]) (fun (k5 : Nat) (s : (List Int) × Int × (List S_api_Instance)) => [(0, .box (some bl) 25 [.dat (vlst (List.map C_int s.1)), .dat (vint s.2.1)]), (1, .row 45 2 (List.map C_api_Instance s.2.2))]) (s1.L, s1.at_, []) H ⟨rfl, rfl, rfl, rfl, rfl, trivial⟩ ⟨rfl, rfl, trivial⟩ (fun _ _ => rfl) ?_ ?_
 ·rintro ⟨c2, c3, l4⟩ H
  replace H : gatemake_Stream_RightInstances_E1 c2 c3 l4 = some r := H
  unfold gatemake_Stream_RightInstances_E1 at H
  refine awp_seq ?_
  refine awp_plain hN rfl ?_
  refine seq_run0 (stp_lss rfl rfl) ?_
  refine awp_seq ?_
  refine awp_cond _ rfl (fun h => (lt_t h).elim) (fun h => ?_)
  refine awp_exit ?_
  refine awp_seq ?_
  refine awp_plain hN rfl ?_
  refine seq_run0 (stp_move (.row _ _) rfl) ?_
  refine seq_run0 (stp_assign (.row _ _) rfl) ?_
  refine awp_ret ?_
  cases H
  exact ⟨trivial, ⟨t_slotv rfl rfl, trivial⟩, rfl⟩
 ·rintro k5 x8 ⟨c2, c3, l4⟩ q6 h9 h10 H hq6
  replace H : gatemake_Stream_RightInstances_L1 k5 x8 c2 c3 l4 = some q6 := H
  unfold gatemake_Stream_RightInstances_L1 at H
  refine awp_seq ?_
  refine awp_plain hN rfl ?_
  refine seq_run0 (stp_lss rfl rfl) ?_
  refine awp_seq ?_
  refine awp_cond _ rfl (fun h => ?_) (fun h => (lt_f h9 h).elim)
  refine awp_skip ?_
  refine awp_joinE (ι := (List S_api_Instance) × (List Int) × Int) (fun i => [(0, .ptr 0 0), (3, .row 1 i.1.length), (6, .dat (vlst (List.map C_string ([[105, 97], [105, 98], [105, 99], [105, 100]])))), (7, .dat (vint (([[105, 97], [105, 98], [105, 99], [105, 100]]).length : Int))), (8, .dat (vint (k5 : Int)))]) (fun i => [(0, .box (some bl) 25 [.dat (vlst (List.map C_int i.2.1)), .dat (vint i.2.2)]), (1, .row 45 2 (List.map C_api_Instance i.1))]) (fun i => gatemake_Stream_RightInstances_J2 i.1 i.2.1 i.2.2 = some q6) (fun i => rfl) ?_ ?_
  ·skip
   refine awp_block ?_
   refine awp_seq ?_
   refine awp_plain hN rfl ?_
   refine seq_run0 (t_idx tyE28 (fun _ => rfl) rfl rfl h10) ?_
   refine seq_run0 (stp_loadE1 tyS9 rfl (map_at h10) rfl) ?_
   refine qe rfl ?_
   refine awp_joinE (ι := Bool × (List Int) × Int) (fun i => [(0, .ptr 0 0), (3, .row 1 l4.length), (5, .dat (vstr x8)), (6, .dat (vlst (List.map C_string ([[105, 97], [105, 98], [105, 99], [105, 100]])))), (7, .dat (vint (([[105, 97], [105, 98], [105, 99], [105, 100]]).length : Int))), (8, .dat (vint (k5 : Int))), (23, .dat (vbool i.1))]) (fun i => [(0, .box (some bl) 25 [.dat (vlst (List.map C_int i.2.1)), .dat (vint i.2.2)]), (1, .row 45 2 (List.map C_api_Instance l4))]) (fun i => gatemake_Stream_RightInstances_J3 l4 x8 i.1 i.2.1 i.2.2 = some q6) (fun i => rfl) ?_ ?_
   ·skip
    refine awp_plain hN rfl ?_
    refine seq_run0 (stp_move (.row _ _) rfl) ?_
    refine seq_run1 (t_lenR tyU26 rfl rfl) rfl ?_
    refine seq_run0 (stp_eql rfl rfl) ?_
    refine qd rfl ?_
    refine seq_split (j := 3) rfl rfl (fun h11 => ?_) (fun h11 => ?_) rfl
    ·have h12 := un1 h11
     replace H := ift h12 H
     refine seq_g0 rfl rfl h11 (stp_move (.dat _) rfl) ?_
     refine seq_g0 rfl rfl h11 (stp_seql rfl rfl) ?_
     refine seq_run0 (stp_pick_t rfl (bTT h12) rfl) ?_
     refine qd rfl ?_
     refine seq_split (j := 7) rfl rfl (fun h13 => ?_) (fun h13 => ?_) rfl
     ·have h14 := un3 h13
      replace H := iff_ h14 H
      refine seq_g0 rfl rfl h13 (stp_move (.ptr _ _) rfl) ?_
      obtain ⟨r15, h16, H⟩ := bnd H
      refine seq_g2 rfl rfl h13 (stp_imp (k_gatemake_Stream_Flip (S_gatemake_Stream.mk c2 c3) 4 r15 h16) rfl ⟨.inl rfl, trivial⟩ rfl) rfl ?_
      refine seq_g0 rfl rfl h13 (stp_not rfl) ?_
      refine seq_run0 (stp_pick_f rfl (bFF h14) rfl) ?_
      exact ⟨(!r15.1, r15.2.L, r15.2.at_), H, ⟨rfl, rfl, rfl, rfl, rfl, rfl, rfl, trivial⟩, ⟨rfl, rfl, trivial⟩⟩
     ·have h17 := un4 h13
      replace H := ift h17 H
      refine seq_skip rfl rfl h13 ?_
      refine seq_skip rfl rfl h13 ?_
      refine seq_skip rfl rfl h13 ?_
      refine seq_run0 (stp_pick_t rfl (bTT h17) rfl) ?_
      exact ⟨(true, c2, c3), H, ⟨rfl, rfl, rfl, rfl, rfl, rfl, rfl, trivial⟩, ⟨rfl, rfl, trivial⟩⟩
    ·have h18 := un2 h11
     replace H := iff_ h18 H
     refine seq_skip rfl rfl h11 ?_
     refine seq_skip rfl rfl h11 ?_
     refine seq_run0 (stp_pick_f rfl (bFF h18) rfl) ?_
     refine qd rfl ?_
     refine seq_g0 rfl rfl rfl (stp_move (.ptr _ _) rfl) ?_
     obtain ⟨r19, h20, H⟩ := bnd H
     refine seq_g2 rfl rfl rfl (stp_imp (k_gatemake_Stream_Flip (S_gatemake_Stream.mk c2 c3) 4 r19 h20) rfl ⟨.inl rfl, trivial⟩ rfl) rfl ?_
     refine seq_g0 rfl rfl rfl (stp_not rfl) ?_
     refine seq_run0 (stp_pick_f rfl rfl rfl) ?_
     exact ⟨(!r19.1, r19.2.L, r19.2.at_), H, ⟨rfl, rfl, rfl, rfl, rfl, rfl, rfl, trivial⟩, ⟨rfl, rfl, trivial⟩⟩
   ·rintro ⟨v21, c22, c23⟩ H
    replace H : gatemake_Stream_RightInstances_J3 l4 x8 v21 c22 c23 = some q6 := H
    unfold gatemake_Stream_RightInstances_J3 at H
    refine awp_cond _ rfl (fun h24 => ?_) (fun h24 => ?_)
    ·replace H := ift h24 H
     refine awp_plain hN rfl ?_
     refine seq_run0 (stp_move (.row _ _) rfl) ?_
     refine qd rfl ?_
     refine seq_run0 (stp_move (.ptr _ _) rfl) ?_
     refine seq_run0 (stp_dat (u' := vlst (List.map C_int [1, 1, 2, 3, 5])) (stp_lit [[_], [_], [_], [_], [_]] tyL22 ⟨rfl, .inl ⟨_, rfl, rfl, rfl⟩, rfl, rfl, .inl ⟨_, rfl, rfl, rfl⟩, rfl, rfl, .inl ⟨_, rfl, rfl, rfl⟩, rfl, rfl, .inl ⟨_, rfl, rfl, rfl⟩, rfl, rfl, .inl ⟨_, rfl, rfl, rfl⟩, rfl, trivial⟩ rfl rfl) rfl) ?_
     obtain ⟨r25, h26, H⟩ := bnd H
     refine seq_run2 (stp_imp (k_gatemake_Stream_Pick (S_gatemake_Stream.mk c22 c23) [1, 1, 2, 3, 5] r25 h26) rfl ⟨.inl rfl, trivial⟩ rfl) rfl ?_
     refine seq_run0 (stp_dat (u' := vagg (C_api_Instance (S_api_Instance.mk x8 r25.1))) (stp_build [(0, [vstr x8]), (1, [vint r25.1])] tyZ45 tyP45 rfl ⟨rfl, .inl ⟨_, rfl, rfl, rfl⟩, rfl, rfl, .inl ⟨_, rfl, rfl, rfl⟩, rfl, trivial⟩) rfl) ?_
     refine seq_run0 (stp_dat (u' := vlst (List.map C_api_Instance [(S_api_Instance.mk x8 r25.1)])) (stp_lit [_] tyL26 ⟨rfl, .inr rfl, rfl, trivial⟩ rfl rfl) rfl) ?_
     obtain ⟨h27, H⟩ := gif H
     refine seq_run2 (t_app tyL26 (fun _ => rfl) rfl rfl rfl ⟨by simp, by first | (simp; done) | simpa using h27⟩ rfl) rfl ?_
     refine seq_run0 (stp_assign (.row _ _) rfl) ?_
     exact ⟨((l4 ++ [(S_api_Instance.mk x8 r25.1)]), r25.2.L, r25.2.at_), H, ⟨rfl, rfl, rfl, rfl, rfl, trivial⟩, ⟨rfl, rfl, trivial⟩⟩
    ·replace H := iff_ h24 H
     refine awp_skip ?_
     exact ⟨(l4, c22, c23), H, ⟨rfl, rfl, rfl, rfl, rfl, trivial⟩, ⟨rfl, rfl, trivial⟩⟩
  ·rintro ⟨out28, c29, c30⟩ H
   replace H : gatemake_Stream_RightInstances_J2 out28 c29 c30 = some q6 := H
   unfold gatemake_Stream_RightInstances_J2 at H
   refine awp_plain hN rfl ?_
   refine seq_run0 (stp_add rfl rfl (by omega)) ?_
   refine qd rfl ?_
   exact ⟨_, backl H, ⟨rfl, rfl, rfl, rfl, rfl, trivial⟩, ⟨rfl, rfl, trivial⟩⟩
theorem k_gatemake_Stream_Some (s1 : S_gatemake_Stream) (l2 : (List Bs)) (r : (Bs × S_gatemake_Stream)) (H : m_gatemake_Stream_Some s1 l2 = some r) : Imp Try.prog 6 25 (C_gatemake_Stream s1) [vlst (List.map C_string l2)] (resOf [vstr r.1]) (C_gatemake_Stream r.2) := by
 refine imp_of (us := [vstr r.1]) (cs' := (C_gatemake_Stream r.2)) (by kernel_rfl) Try.func6 rfl rfl rfl rfl fun X bl hN => ?_
 unfold m_gatemake_Stream_Some at H
 refine awp_seq ?_
 refine awp_plain hN rfl ?_
 refine qe rfl ?_
 refine awp_seq ?_
 refine awp_plain hN rfl ?_
 refine qd rfl ?_
 refine seq_run0 (stp_move (.ptr _ _) rfl) ?_
 refine qd rfl ?_
 refine seq_run0 (t_len tyU28 rfl) ?_
 obtain ⟨r3, h4, H⟩ := bnd H
 refine seq_run2 (stp_imp (k_gatemake_Stream_Next s1 (l2.length : Int) r3 h4) rfl ⟨.inl rfl, trivial⟩ rfl) rfl ?_
 obtain ⟨x5, h6, H⟩ := bnd H
 refine seq_run0 (t_idxI tyE28 (fun _ => rfl) rfl rfl h6) ?_
 refine seq_run0 (stp_loadE1 tyS9 rfl (map_at (at_some h6).2) rfl) ?_
 refine qe rfl ?_
 refine awp_ret ?_
 cases H
 exact ⟨trivial, ⟨.inl rfl, trivial⟩, rfl⟩
theorem k_gatemake_Stream_Range (s1 : S_gatemake_Stream) (low2 : Int) (high3 : Int) (r : (Int × S_gatemake_Stream)) (H : m_gatemake_Stream_Range s1 low2 high3 = some r) : Imp Try.prog 5 25 (C_gatemake_Stream s1) [vint low2, vint high3] (resOf [vint r.1]) (C_gatemake_Stream r.2) := by
 refine imp_of (us := [vint r.1]) (cs' := (C_gatemake_Stream r.2)) (by kernel_rfl) Try.func5 rfl rfl rfl rfl fun X bl hN => ?_
 unfold m_gatemake_Stream_Range at H
 refine awp_seq ?_
 refine awp_plain hN rfl ?_
 refine qe rfl ?_
 refine awp_seq ?_
 refine awp_seq ?_
 refine awp_plain hN rfl ?_
 refine qd rfl ?_
 refine qd rfl ?_
 refine seq_run0 (stp_lss rfl rfl) ?_
 refine awp_cond _ rfl (fun h4 => ?_) (fun h4 => ?_)
 ·replace H := ift h4 H
  refine awp_seq ?_
  refine awp_plain hN rfl ?_
  refine qd rfl ?_
  refine qe rfl ?_
  refine awp_ret ?_
  cases H
  exact ⟨trivial, ⟨.inl rfl, trivial⟩, rfl⟩
 ·replace H := iff_ h4 H
  refine awp_skip ?_
  refine awp_seq ?_
  refine awp_plain hN rfl ?_
  refine qd rfl ?_
  refine seq_run0 (stp_move (.ptr _ _) rfl) ?_
  refine qd rfl ?_
  refine qd rfl ?_
  refine seq_run0 (stp_wrap _ rfl rfl (.inr (.inl ⟨rfl, rfl⟩))) ?_
  refine seq_run0 (stp_wrap _ rfl rfl (.inl ⟨rfl, rfl⟩)) ?_
  obtain ⟨r5, h6, H⟩ := bnd H
  refine seq_run2 (stp_imp (k_gatemake_Stream_Next s1 (wr ((wr (high3 - low2)) + 1)) r5 h6) rfl ⟨.inl rfl, trivial⟩ rfl) rfl ?_
  refine seq_run0 (stp_wrap _ rfl rfl (.inl ⟨rfl, rfl⟩)) ?_
  refine qe rfl ?_
  refine awp_ret ?_
  cases H
  exact ⟨trivial, ⟨.inl rfl, trivial⟩, rfl⟩
theorem k_gatemake_Stream_Odd (s1 : S_gatemake_Stream) (low2 : Int) (high3 : Int) (r : (Int × S_gatemake_Stream)) (H : m_gatemake_Stream_Odd s1 low2 high3 = some r) : Imp Try.prog 18 25 (C_gatemake_Stream s1) [vint low2, vint high3] (resOf [vint r.1]) (C_gatemake_Stream r.2) := by
 refine imp_of (us := [vint r.1]) (cs' := (C_gatemake_Stream r.2)) (by kernel_rfl) Try.func18 rfl rfl rfl rfl fun X bl hN => ?_
 unfold m_gatemake_Stream_Odd at H
 refine awp_seq ?_
 refine awp_plain hN rfl ?_
 refine qe rfl ?_
 refine awp_seq ?_
 refine awp_seq ?_
 refine awp_plain hN rfl ?_
 refine seq_run0 (stp_move (.ptr _ _) rfl) ?_
 obtain ⟨r4, h5, H⟩ := bnd H
 refine seq_run2 (stp_imp (k_gatemake_Stream_Flip s1 12 r4 h5) rfl ⟨.inl rfl, trivial⟩ rfl) rfl ?_
 refine awp_cond _ rfl (fun h6 => ?_) (fun h6 => ?_)
 ·replace H := ift h6 H
  refine awp_seq ?_
  refine awp_plain hN rfl ?_
  refine seq_run0 (stp_move (.ptr _ _) rfl) ?_
  refine qd rfl ?_
  refine seq_run0 (stp_wrap _ rfl rfl (.inr (.inl ⟨rfl, rfl⟩))) ?_
  refine qd rfl ?_
  refine seq_run0 (stp_wrap _ rfl rfl (.inl ⟨rfl, rfl⟩)) ?_
  refine qd rfl ?_
  refine qd rfl ?_
  refine seq_run0 (stp_dat (u' := vlst (List.map C_int [wr (low2 - 1), wr (high3 + 1), low2, high3, (-1099511627776), 1099511627776])) (stp_lit [[_], [_], [_], [_], [_], [_]] tyL22 ⟨rfl, .inl ⟨_, rfl, rfl, rfl⟩, rfl, rfl, .inl ⟨_, rfl, rfl, rfl⟩, rfl, rfl, .inl ⟨_, rfl, rfl, rfl⟩, rfl, rfl, .inl ⟨_, rfl, rfl, rfl⟩, rfl, rfl, .inl ⟨_, rfl, rfl, rfl⟩, rfl, rfl, .inl ⟨_, rfl, rfl, rfl⟩, rfl, trivial⟩ rfl rfl) rfl) ?_
  obtain ⟨r7, h8, H⟩ := bnd H
  refine seq_run2 (stp_imp (k_gatemake_Stream_Pick r4.2 [wr (low2 - 1), wr (high3 + 1), low2, high3, (-1099511627776), 1099511627776] r7 h8) rfl ⟨.inl rfl, trivial⟩ rfl) rfl ?_
  refine qe rfl ?_
  refine awp_ret ?_
  cases H
  exact ⟨trivial, ⟨.inl rfl, trivial⟩, rfl⟩
 ·replace H := iff_ h6 H
  refine awp_skip ?_
  refine awp_seq ?_
  refine awp_plain hN rfl ?_
  refine seq_run0 (stp_move (.ptr _ _) rfl) ?_
  refine qd rfl ?_
  refine qd rfl ?_
  obtain ⟨r9, h10, H⟩ := bnd H
  refine seq_run2 (stp_imp (k_gatemake_Stream_Range r4.2 low2 high3 r9 h10) rfl ⟨.inl rfl, .inl rfl, trivial⟩ rfl) rfl ?_
  refine qe rfl ?_
  refine awp_ret ?_
  cases H
  exact ⟨trivial, ⟨.inl rfl, trivial⟩, rfl⟩
theorem kr_gatemake_Stream_RightInstances (s1 : S_gatemake_Stream) (r : ((List S_api_Instance) × S_gatemake_Stream)) (H : m_gatemake_Stream_RightInstances s1 = some r) : FnG Try.prog 16 [.ptr 0 0] [(0, .box (some 0) 25 (List.map .dat (C_gatemake_Stream s1)))] (.row 1 r.1.length) [(0, .box (some 0) 25 (List.map .dat (C_gatemake_Stream r.2))), (1, .row 45 2 (List.map C_api_Instance r.1))] := by
 refine fnG_of (by kernel_rfl) Try.func16 rfl rfl rfl rfl fun X A hN => ?_
 unfold m_gatemake_Stream_RightInstances at H
 refine awp_seq ?_
 refine awp_plain hN rfl ?_
 refine qe rfl ?_
 refine awp_seq ?_
 refine awp_plain hN rfl ?_
 refine qe rfl ?_
 refine awp_seq ?_
 refine awp_seq ?_
 refine awp_plain hN rfl ?_
 refine seq_run0 (stp_dat (u' := vlst (List.map C_string [[105, 97], [105, 98], [105, 99], [105, 100]])) (stp_lit [[_], [_], [_], [_]] tyL28 ⟨rfl, .inl ⟨_, rfl, rfl, rfl⟩, rfl, rfl, .inl ⟨_, rfl, rfl, rfl⟩, rfl, rfl, .inl ⟨_, rfl, rfl, rfl⟩, rfl, rfl, .inl ⟨_, rfl, rfl, rfl⟩, rfl, trivial⟩ rfl rfl) rfl) ?_
 refine seq_run0 (t_len tyU28 rfl) ?_
 refine qd rfl ?_
 refine awp_block ?_
 refine awp_nilrow 3 1 45 2 rfl rfl rfl ?_
 obtain ⟨h7, H⟩ := gif H
 refine awp_forL (fun (k5 : Nat) (s : (List Int) × Int × (List S_api_Instance)) => [(0, .ptr 0 0), (3, .row 1 s.2.2.length), (6, .dat (vlst (List.map C_string ([[105, 97], [105, 98], [105, 99], [105, 100]])))), (7, .dat (vint (([[105, 97], [105, 98], [105, 99], [105, 100]]).length : Int))), (8, .dat (vint (k5 : Int)))]) (fun (k5 : Nat) (s : (List Int) × Int × (List S_api_Instance)) => [(0, .box (some (A.bl 0)) 25 [.dat (vlst (List.map C_int s.1)), .dat (vint s.2.1)]), (1, .row 45 2 (List.map C_api_Instance s.2.2))]) (s1.L, s1.at_, []) H ⟨rfl, rfl, rfl, rfl, rfl, trivial⟩ ⟨rfl, rfl, trivial⟩ (fun _ _ => rfl) ?_ ?_
 ·rintro ⟨c2, c3, l4⟩ H
  replace H : gatemake_Stream_RightInstances_E1 c2 c3 l4 = some r := H
  unfold gatemake_Stream_RightInstances_E1 at H
  refine awp_seq ?_
  refine awp_plain hN rfl ?_
  refine seq_run0 (stp_lss rfl rfl) ?_
  refine awp_seq ?_
  refine awp_cond _ rfl (fun h => (lt_t h).elim) (fun h => ?_)
  refine awp_exit ?_
  refine awp_seq ?_
  refine awp_plain hN rfl ?_
  refine seq_run0 (stp_move (.row _ _) rfl) ?_
  refine seq_run0 (stp_assign (.row _ _) rfl) ?_
  refine awp_ret ?_
  cases H
  exact ⟨trivial, [(2, .row 1 _)], ⟨rfl, trivial⟩, ⟨rfl, rfl, trivial⟩, rfl, .inr ⟨2, rfl, rfl⟩⟩
 ·rintro k5 x8 ⟨c2, c3, l4⟩ q6 h9 h10 H hq6
  replace H : gatemake_Stream_RightInstances_L1 k5 x8 c2 c3 l4 = some q6 := H
  unfold gatemake_Stream_RightInstances_L1 at H
  refine awp_seq ?_
  refine awp_plain hN rfl ?_
  refine seq_run0 (stp_lss rfl rfl) ?_
  refine awp_seq ?_
  refine awp_cond _ rfl (fun h => ?_) (fun h => (lt_f h9 h).elim)
  refine awp_skip ?_
  refine awp_joinE (ι := (List S_api_Instance) × (List Int) × Int) (fun i => [(0, .ptr 0 0), (3, .row 1 i.1.length), (6, .dat (vlst (List.map C_string ([[105, 97], [105, 98], [105, 99], [105, 100]])))), (7, .dat (vint (([[105, 97], [105, 98], [105, 99], [105, 100]]).length : Int))), (8, .dat (vint (k5 : Int)))]) (fun i => [(0, .box (some (A.bl 0)) 25 [.dat (vlst (List.map C_int i.2.1)), .dat (vint i.2.2)]), (1, .row 45 2 (List.map C_api_Instance i.1))]) (fun i => gatemake_Stream_RightInstances_J2 i.1 i.2.1 i.2.2 = some q6) (fun i => rfl) ?_ ?_
  ·skip
   refine awp_block ?_
   refine awp_seq ?_
   refine awp_plain hN rfl ?_
   refine seq_run0 (t_idx tyE28 (fun _ => rfl) rfl rfl h10) ?_
   refine seq_run0 (stp_loadE1 tyS9 rfl (map_at h10) rfl) ?_
   refine qe rfl ?_
   refine awp_joinE (ι := Bool × (List Int) × Int) (fun i => [(0, .ptr 0 0), (3, .row 1 l4.length), (5, .dat (vstr x8)), (6, .dat (vlst (List.map C_string ([[105, 97], [105, 98], [105, 99], [105, 100]])))), (7, .dat (vint (([[105, 97], [105, 98], [105, 99], [105, 100]]).length : Int))), (8, .dat (vint (k5 : Int))), (23, .dat (vbool i.1))]) (fun i => [(0, .box (some (A.bl 0)) 25 [.dat (vlst (List.map C_int i.2.1)), .dat (vint i.2.2)]), (1, .row 45 2 (List.map C_api_Instance l4))]) (fun i => gatemake_Stream_RightInstances_J3 l4 x8 i.1 i.2.1 i.2.2 = some q6) (fun i => rfl) ?_ ?_
   ·skip
    refine awp_plain hN rfl ?_
    refine seq_run0 (stp_move (.row _ _) rfl) ?_
    refine seq_run1 (t_lenR tyU26 rfl rfl) rfl ?_
    refine seq_run0 (stp_eql rfl rfl) ?_
    refine qd rfl ?_
    refine seq_split (j := 3) rfl rfl (fun h11 => ?_) (fun h11 => ?_) rfl
    ·have h12 := un1 h11
     replace H := ift h12 H
     refine seq_g0 rfl rfl h11 (stp_move (.dat _) rfl) ?_
     refine seq_g0 rfl rfl h11 (stp_seql rfl rfl) ?_
     refine seq_run0 (stp_pick_t rfl (bTT h12) rfl) ?_
     refine qd rfl ?_
     refine seq_split (j := 7) rfl rfl (fun h13 => ?_) (fun h13 => ?_) rfl
     ·have h14 := un3 h13
      replace H := iff_ h14 H
      refine seq_g0 rfl rfl h13 (stp_move (.ptr _ _) rfl) ?_
      obtain ⟨r15, h16, H⟩ := bnd H
      refine seq_g2 rfl rfl h13 (stp_imp (k_gatemake_Stream_Flip (S_gatemake_Stream.mk c2 c3) 4 r15 h16) rfl ⟨.inl rfl, trivial⟩ rfl) rfl ?_
      refine seq_g0 rfl rfl h13 (stp_not rfl) ?_
      refine seq_run0 (stp_pick_f rfl (bFF h14) rfl) ?_
      exact ⟨(!r15.1, r15.2.L, r15.2.at_), H, ⟨rfl, rfl, rfl, rfl, rfl, rfl, rfl, trivial⟩, ⟨rfl, rfl, trivial⟩⟩
     ·have h17 := un4 h13
      replace H := ift h17 H
      refine seq_skip rfl rfl h13 ?_
      refine seq_skip rfl rfl h13 ?_
      refine seq_skip rfl rfl h13 ?_
      refine seq_run0 (stp_pick_t rfl (bTT h17) rfl) ?_
      exact ⟨(true, c2, c3), H, ⟨rfl, rfl, rfl, rfl, rfl, rfl, rfl, trivial⟩, ⟨rfl, rfl, trivial⟩⟩
    ·have h18 := un2 h11
     replace H := iff_ h18 H
     refine seq_skip rfl rfl h11 ?_
     refine seq_skip rfl rfl h11 ?_
     refine seq_run0 (stp_pick_f rfl (bFF h18) rfl) ?_
     refine qd rfl ?_
     refine seq_g0 rfl rfl rfl (stp_move (.ptr _ _) rfl) ?_
     obtain ⟨r19, h20, H⟩ := bnd H
     refine seq_g2 rfl rfl rfl (stp_imp (k_gatemake_Stream_Flip (S_gatemake_Stream.mk c2 c3) 4 r19 h20) rfl ⟨.inl rfl, trivial⟩ rfl) rfl ?_
     refine seq_g0 rfl rfl rfl (stp_not rfl) ?_
     refine seq_run0 (stp_pick_f rfl rfl rfl) ?_
     exact ⟨(!r19.1, r19.2.L, r19.2.at_), H, ⟨rfl, rfl, rfl, rfl, rfl, rfl, rfl, trivial⟩, ⟨rfl, rfl, trivial⟩⟩
   ·rintro ⟨v21, c22, c23⟩ H
    replace H : gatemake_Stream_RightInstances_J3 l4 x8 v21 c22 c23 = some q6 := H
    unfold gatemake_Stream_RightInstances_J3 at H
    refine awp_cond _ rfl (fun h24 => ?_) (fun h24 => ?_)
    ·replace H := ift h24 H
     refine awp_plain hN rfl ?_
     refine seq_run0 (stp_move (.row _ _) rfl) ?_
     refine qd rfl ?_
     refine seq_run0 (stp_move (.ptr _ _) rfl) ?_
     refine seq_run0 (stp_dat (u' := vlst (List.map C_int [1, 1, 2, 3, 5])) (stp_lit [[_], [_], [_], [_], [_]] tyL22 ⟨rfl, .inl ⟨_, rfl, rfl, rfl⟩, rfl, rfl, .inl ⟨_, rfl, rfl, rfl⟩, rfl, rfl, .inl ⟨_, rfl, rfl, rfl⟩, rfl, rfl, .inl ⟨_, rfl, rfl, rfl⟩, rfl, rfl, .inl ⟨_, rfl, rfl, rfl⟩, rfl, trivial⟩ rfl rfl) rfl) ?_
     obtain ⟨r25, h26, H⟩ := bnd H
     refine seq_run2 (stp_imp (k_gatemake_Stream_Pick (S_gatemake_Stream.mk c22 c23) [1, 1, 2, 3, 5] r25 h26) rfl ⟨.inl rfl, trivial⟩ rfl) rfl ?_
     refine seq_run0 (stp_dat (u' := vagg (C_api_Instance (S_api_Instance.mk x8 r25.1))) (stp_build [(0, [vstr x8]), (1, [vint r25.1])] tyZ45 tyP45 rfl ⟨rfl, .inl ⟨_, rfl, rfl, rfl⟩, rfl, rfl, .inl ⟨_, rfl, rfl, rfl⟩, rfl, trivial⟩) rfl) ?_
     refine seq_run0 (stp_dat (u' := vlst (List.map C_api_Instance [(S_api_Instance.mk x8 r25.1)])) (stp_lit [_] tyL26 ⟨rfl, .inr rfl, rfl, trivial⟩ rfl rfl) rfl) ?_
     obtain ⟨h27, H⟩ := gif H
     refine seq_run2 (t_app tyL26 (fun _ => rfl) rfl rfl rfl ⟨by simp, by first | (simp; done) | simpa using h27⟩ rfl) rfl ?_
     refine seq_run0 (stp_assign (.row _ _) rfl) ?_
     exact ⟨((l4 ++ [(S_api_Instance.mk x8 r25.1)]), r25.2.L, r25.2.at_), H, ⟨rfl, rfl, rfl, rfl, rfl, trivial⟩, ⟨rfl, rfl, trivial⟩⟩
    ·replace H := iff_ h24 H
     refine awp_skip ?_
     exact ⟨(l4, c22, c23), H, ⟨rfl, rfl, rfl, rfl, rfl, trivial⟩, ⟨rfl, rfl, trivial⟩⟩
  ·rintro ⟨out28, c29, c30⟩ H
   replace H : gatemake_Stream_RightInstances_J2 out28 c29 c30 = some q6 := H
   unfold gatemake_Stream_RightInstances_J2 at H
   refine awp_plain hN rfl ?_
   refine seq_run0 (stp_add rfl rfl (by omega)) ?_
   refine qd rfl ?_
   exact ⟨_, backl H, ⟨rfl, rfl, rfl, rfl, rfl, trivial⟩, ⟨rfl, rfl, trivial⟩⟩
theorem k_gatemake_Stream_Instances (s1 : S_gatemake_Stream) (r : ((List S_api_Instance) × S_gatemake_Stream)) (H : m_gatemake_Stream_Instances s1 = some r) : Imp Try.prog 4 25 (C_gatemake_Stream s1) [] (resOf [vlst (List.map C_api_Instance r.1)]) (C_gatemake_Stream r.2) := by
 refine imp_of (us := [vlst (List.map C_api_Instance r.1)]) (cs' := (C_gatemake_Stream r.2)) (by kernel_rfl) Try.func4 rfl rfl rfl rfl fun X bl hN => ?_
 unfold m_gatemake_Stream_Instances at H
 refine awp_seq ?_
 refine awp_plain hN rfl ?_
 refine qe rfl ?_
 refine awp_seq ?_
 refine awp_plain hN rfl ?_
 refine seq_run0 (stp_move (.ptr _ _) rfl) ?_
 obtain ⟨r2, h3, H⟩ := bnd H
 refine seq_callG (rn [(0, 0), (1, 1)]) [(0, _, _, some _)] [(1, _)] (kr_gatemake_Stream_RightInstances s1 r2 h3) ⟨rfl, rfl, trivial⟩ ⟨.inl (.inl rfl), trivial⟩ ⟨⟨⟨rfl, rfl⟩, trivial⟩, trivial⟩ rfl ?_
 refine seq_run0 (stp_assign (.row _ _) rfl) ?_
 refine awp_joinE (ι := (List S_api_Instance) × (List Int) × Int) (fun i => [(0, .ptr 0 0), (3, .row 1 i.1.length)]) (fun i => [(0, .box (some bl) 25 [.dat (vlst (List.map C_int i.2.1)), .dat (vint i.2.2)]), (1, .row 45 2 (List.map C_api_Instance i.1))]) (fun i => gatemake_Stream_Instances_J1 i.1 i.2.1 i.2.2 = some r) (fun i => rfl) ?_ ?_
 ·skip
  refine awp_seq ?_
  refine awp_plain hN rfl ?_
  refine seq_run0 (stp_move (.ptr _ _) rfl) ?_
  obtain ⟨r4, h5, H⟩ := bnd H
  refine seq_run2 (stp_imp (k_gatemake_Stream_Flip r2.2 15 r4 h5) rfl ⟨.inl rfl, trivial⟩ rfl) rfl ?_
  refine awp_cond _ rfl (fun h6 => ?_) (fun h6 => ?_)
  ·replace H := ift h6 H
   refine awp_seq ?_
   refine awp_plain hN rfl ?_
   refine seq_run0 (stp_move (.row _ _) rfl) ?_
   refine seq_run0 (stp_move (.ptr _ _) rfl) ?_
   refine seq_run0 (stp_move (.row _ _) rfl) ?_
   refine seq_run1 (t_lenR tyU26 rfl rfl) rfl ?_
   obtain ⟨r7, h8, H⟩ := bnd H
   refine seq_run2 (stp_imp (k_gatemake_Stream_Next r4.2 (r2.1.length : Int) r7 h8) rfl ⟨.inl rfl, trivial⟩ rfl) rfl ?_
   obtain ⟨x9, h10, H⟩ := bnd H
   refine seq_run1 (t_idxRI tyE26 rfl rfl rfl h10) rfl ?_
   refine seq_run0 (stp_assign (.rptr _ _ _ _ _) rfl) ?_
   refine awp_plain hN rfl ?_
   refine seq_run0 (stp_move (.rptr _ _ _ _ _) rfl) ?_
   refine seq_run0 (stp_move (.rptr _ _ _ _ _) rfl) ?_
   refine seq_run0 (stp_move (.ptr _ _) rfl) ?_
   refine seq_run0 (stp_move (.rptr _ _ _ _ _) rfl) ?_
   refine seq_run0 (stp_nilR rfl) ?_
   refine seq_run0 (stp_fldR tyF45_0 rfl) ?_
   refine seq_run1 (t_loadR1 tyS9 rfl rfl (at_some h10).2 rfl) rfl ?_
   refine seq_run0 (stp_dat (u' := vlst (List.map C_string [x9.Key, [], [65], [105, 97]])) (stp_lit [[_], [_], [_], [_]] tyL28 ⟨rfl, .inl ⟨_, rfl, rfl, rfl⟩, rfl, rfl, .inl ⟨_, rfl, rfl, rfl⟩, rfl, rfl, .inl ⟨_, rfl, rfl, rfl⟩, rfl, rfl, .inl ⟨_, rfl, rfl, rfl⟩, rfl, trivial⟩ rfl rfl) rfl) ?_
   obtain ⟨r11, h12, H⟩ := bnd H
   refine seq_run2 (stp_imp (k_gatemake_Stream_Some r7.2 ([x9.Key, [], [65], [105, 97]]) r11 h12) rfl ⟨.inl rfl, trivial⟩ rfl) rfl ?_
   refine seq_run0 (stp_move (.ptr _ _) rfl) ?_
   obtain ⟨r13, h14, H⟩ := bnd H
   refine seq_run2 (stp_imp (k_gatemake_Stream_Odd r11.2 1 100 r13 h14) rfl ⟨.inl rfl, .inl rfl, trivial⟩ rfl) rfl ?_
   refine seq_run0 (stp_nilR rfl) ?_
   refine seq_run0 (stp_fldR tyF45_0 rfl) ?_
   refine seq_run2 (t_storeR (S_api_Instance.mk r11.1 x9.Weight) tyS9 rfl rfl rfl rfl (at_some h10).2 rfl rfl) rfl ?_
   refine seq_run0 (stp_nilR rfl) ?_
   refine seq_run0 (stp_fldR tyF45_1 rfl) ?_
   refine seq_run2 (t_storeR (S_api_Instance.mk r11.1 r13.1) tyS3 rfl rfl rfl (by simp) (set_at (at_some h10).2) rfl rfl) rfl ?_
   exact ⟨(((r2.1.set r7.1.toNat (S_api_Instance.mk r11.1 x9.Weight)).set r7.1.toNat (S_api_Instance.mk r11.1 r13.1)), r13.2.L, r13.2.at_), H, ⟨rfl, congrArg (Slot.row 1) (by simp), trivial⟩, ⟨rfl, rfl, trivial⟩⟩
  ·replace H := iff_ h6 H
   refine awp_skip ?_
   exact ⟨(r2.1, r4.2.L, r4.2.at_), H, ⟨rfl, rfl, trivial⟩, ⟨rfl, rfl, trivial⟩⟩
 ·rintro ⟨out15, c16, c17⟩ H
  replace H : gatemake_Stream_Instances_J1 out15 c16 c17 = some r := H
  unfold gatemake_Stream_Instances_J1 at H
  refine awp_seq ?_
  refine awp_seq ?_
  refine awp_plain hN rfl ?_
  refine seq_run0 (stp_move (.ptr _ _) rfl) ?_
  obtain ⟨r18, h19, H⟩ := bnd H
  refine seq_run2 (stp_imp (k_gatemake_Stream_Flip (S_gatemake_Stream.mk c16 c17) 25 r18 h19) rfl ⟨.inl rfl, trivial⟩ rfl) rfl ?_
  refine awp_cond _ rfl (fun h20 => ?_) (fun h20 => ?_)
  ·replace H := ift h20 H
   refine awp_seq ?_
   refine awp_plain hN rfl ?_
   refine qe rfl ?_
   refine awp_ret ?_
   cases H
   exact ⟨trivial, ⟨.inr ⟨rfl, rfl⟩, trivial⟩, rfl⟩
  ·replace H := iff_ h20 H
   refine awp_skip ?_
   refine awp_seq ?_
   refine awp_plain hN rfl ?_
   refine seq_run0 (stp_move (.row _ _) rfl) ?_
   refine seq_run0 (stp_assign (.row _ _) rfl) ?_
   refine awp_ret ?_
   cases H
   exact ⟨trivial, ⟨t_slotv rfl rfl, trivial⟩, rfl⟩
theorem kr_slices_Clone_L_api_Instance_api_Instance_ (l r : List S_api_Instance) (H : m_slices_Clone l = some r) : FnG Try.prog 31 [.dat (vlst (List.map C_api_Instance l))] [] (.row 900 r.length) [(900, .row 45 2 (List.map C_api_Instance r))] := by
 obtain ⟨hl, rfl⟩ := clone_some H
 refine fnG_of (by kernel_rfl) Try.func31 rfl rfl rfl rfl fun X A hN => ?_
 refine awp_nilcase 0 rfl (fun h0 => ?_) ?_
 ·obtain rfl := List.map_eq_nil_iff.1 h0
  refine awp_seq ?_
  refine awp_plain hN rfl ?_
  refine qe rfl ?_
  refine awp_seq ?_
  refine awp_seq ?_
  refine awp_plain hN rfl ?_
  refine qd rfl ?_
  refine seq_run0 (stp_eqnil_t tyU26 rfl) ?_
  refine awp_cond _ rfl (fun h => ?_) (fun h => by cases h)
  refine awp_seq ?_
  refine awp_plain hN rfl ?_
  refine qe rfl ?_
  refine awp_nilrow 2 900 45 2 rfl rfl rfl ?_
  refine awp_ret ?_
  exact ⟨trivial, [(2, .row 900 0)], ⟨rfl, trivial⟩, ⟨rfl, trivial⟩, rfl, .inr ⟨2, rfl, rfl⟩⟩
 ·refine awp_seq ?_
  refine awp_plain hN rfl ?_
  refine qe rfl ?_
  refine awp_seq ?_
  refine awp_seq ?_
  refine awp_plain hN rfl ?_
  refine qd rfl ?_
  refine seq_run0 (stp_eqnil_f tyU26 rfl) ?_
  refine awp_cond _ rfl (fun h => by cases h) (fun h => ?_)
  refine awp_skip ?_
  refine awp_seq ?_
  refine awp_wk 0 (u' := vlst (List.map C_api_Instance l)) rfl wk_nn ?_
  refine awp_plain hN rfl ?_
  refine seq_run2 (stp_lit0 900 tyL26) rfl ?_
  refine qd rfl ?_
  refine seq_run2 (t_app2 (C := C_api_Instance) (xs := []) tyL26 (fun _ => rfl) rfl rfl rfl (by simpa using hl) rfl) rfl ?_
  refine seq_run0 (stp_assign (.row _ _) rfl) ?_
  refine awp_ret ?_
  exact ⟨trivial, [(2, .row 900 l.length)], ⟨rfl, trivial⟩, ⟨rfl, trivial⟩, rfl, .inr ⟨2, rfl, rfl⟩⟩
theorem k_slices_Clone_L_api_Instance_api_Instance_ (l r : List S_api_Instance) (H : m_slices_Clone l = some r) : Fn Try.prog 31 [vlst (List.map C_api_Instance l)] (resOf [vlst (List.map C_api_Instance r)]) := by
 have h := kr_slices_Clone_L_api_Instance_api_Instance_ l r H
 rw [← List.length_map (f := C_api_Instance)] at h
 exact fn_of_fnG h
theorem k_math_bits_Len32 (x1 : Int) (r : (Int)) (H : m_math_bits_Len32 x1 = some r) : Fn Try.prog 58 [vval (.int .u32 x1)] (resOf [vint r]) := by
 refine ⟨by kernel_rfl, pure_of (us := [vint r]) Try.func58 rfl rfl rfl rfl fun X hN => ?_⟩
 unfold m_math_bits_Len32 at H
 refine awp_seq ?_
 refine awp_plain hN rfl ?_
 refine qe rfl ?_
 refine awp_joinE (ι := Int × Int) (fun i => [(0, .dat (vval (.int .u32 i.1))), (2, .dat (vint i.2))]) (fun i => []) (fun i => math_bits_Len32_J1 i.1 i.2 = some r) (fun i => rfl) ?_ ?_
 ·skip
  refine awp_seq ?_
  refine awp_plain hN rfl ?_
  refine qd rfl ?_
  refine seq_run0 (stp_geq rfl rfl) ?_
  refine awp_cond _ rfl (fun h2 => ?_) (fun h2 => ?_)
  ·replace H := ift h2 H
   refine awp_seq ?_
   refine awp_plain hN rfl ?_
   refine qd rfl ?_
   refine seq_run0 (stp_dat (stp_shr rfl rfl (by decide)) rfl) ?_
   refine qe rfl ?_
   refine awp_plain hN rfl ?_
   refine qe rfl ?_
   exact ⟨((shr_ .u32 x1 16), 16), H, ⟨rfl, rfl, trivial⟩, trivial⟩
  ·replace H := iff_ h2 H
   refine awp_skip ?_
   exact ⟨(x1, 0), H, ⟨rfl, rfl, trivial⟩, trivial⟩
 ·rintro ⟨x3, n4⟩ H
  replace H : math_bits_Len32_J1 x3 n4 = some r := H
  unfold math_bits_Len32_J1 at H
  refine awp_joinE (ι := Int × Int) (fun i => [(0, .dat (vval (.int .u32 i.1))), (2, .dat (vint i.2))]) (fun i => []) (fun i => math_bits_Len32_J2 i.1 i.2 = some r) (fun i => rfl) ?_ ?_
  ·skip
   refine awp_seq ?_
   refine awp_plain hN rfl ?_
   refine qd rfl ?_
   refine seq_run0 (stp_geq rfl rfl) ?_
   refine awp_cond _ rfl (fun h5 => ?_) (fun h5 => ?_)
   ·replace H := ift h5 H
    refine awp_seq ?_
    refine awp_plain hN rfl ?_
    refine qd rfl ?_
    refine seq_run0 (stp_dat (stp_shr rfl rfl (by decide)) rfl) ?_
    refine qe rfl ?_
    refine awp_plain hN rfl ?_
    refine qd rfl ?_
    refine seq_run0 (stp_wrap _ rfl rfl (.inl ⟨rfl, rfl⟩)) ?_
    refine qe rfl ?_
    exact ⟨((shr_ .u32 x3 8), wr (n4 + 8)), H, ⟨rfl, rfl, trivial⟩, trivial⟩
   ·replace H := iff_ h5 H
    refine awp_skip ?_
    exact ⟨(x3, n4), H, ⟨rfl, rfl, trivial⟩, trivial⟩
  ·rintro ⟨x6, n7⟩ H
   replace H : math_bits_Len32_J2 x6 n7 = some r := H
   unfold math_bits_Len32_J2 at H
   refine awp_seq ?_
   refine awp_plain hN rfl ?_
   refine qd rfl ?_
   refine qd rfl ?_
   refine seq_run0 (stp_conv tyU81 tyU5 rfl) ?_
   obtain ⟨x8, h9, H⟩ := bnd H
   refine seq_run0 (t_byteK tyU9 rfl rfl h9) ?_
   refine seq_run0 (stp_conv tyU5 tyU3 rfl) ?_
   refine seq_run0 (stp_wrap _ rfl rfl (.inl ⟨rfl, rfl⟩)) ?_
   refine qe rfl ?_
   refine awp_ret ?_
   cases H
   exact ⟨trivial, .inl rfl, trivial⟩
theorem k_math_bits_Len64 (x1 : Int) (r : (Int)) (H : m_math_bits_Len64 x1 = some r) : Fn Try.prog 59 [vval (.int .u64 x1)] (resOf [vint r]) := by
 refine ⟨by kernel_rfl, pure_of (us := [vint r]) Try.func59 rfl rfl rfl rfl fun X hN => ?_⟩
 unfold m_math_bits_Len64 at H
 refine awp_seq ?_
 refine awp_plain hN rfl ?_
 refine qe rfl ?_
 refine awp_joinE (ι := Int × Int) (fun i => [(0, .dat (vval (.int .u64 i.1))), (2, .dat (vint i.2))]) (fun i => []) (fun i => math_bits_Len64_J1 i.1 i.2 = some r) (fun i => rfl) ?_ ?_
 ·skip
  refine awp_seq ?_
  refine awp_plain hN rfl ?_
  refine qd rfl ?_
  refine seq_run0 (stp_geq rfl rfl) ?_
  refine awp_cond _ rfl (fun h2 => ?_) (fun h2 => ?_)
  ·replace H := ift h2 H
   refine awp_seq ?_
   refine awp_plain hN rfl ?_
   refine qd rfl ?_
   refine seq_run0 (stp_dat (stp_shr rfl rfl (by decide)) rfl) ?_
   refine qe rfl ?_
   refine awp_plain hN rfl ?_
   refine qe rfl ?_
   exact ⟨((shr_ .u64 x1 32), 32), H, ⟨rfl, rfl, trivial⟩, trivial⟩
  ·replace H := iff_ h2 H
   refine awp_skip ?_
   exact ⟨(x1, 0), H, ⟨rfl, rfl, trivial⟩, trivial⟩
 ·rintro ⟨x3, n4⟩ H
  replace H : math_bits_Len64_J1 x3 n4 = some r := H
  unfold math_bits_Len64_J1 at H
  refine awp_joinE (ι := Int × Int) (fun i => [(0, .dat (vval (.int .u64 i.1))), (2, .dat (vint i.2))]) (fun i => []) (fun i => math_bits_Len64_J2 i.1 i.2 = some r) (fun i => rfl) ?_ ?_
  ·skip
   refine awp_seq ?_
   refine awp_plain hN rfl ?_
   refine qd rfl ?_
   refine seq_run0 (stp_geq rfl rfl) ?_
   refine awp_cond _ rfl (fun h5 => ?_) (fun h5 => ?_)
   ·replace H := ift h5 H
    refine awp_seq ?_
    refine awp_plain hN rfl ?_
    refine qd rfl ?_
    refine seq_run0 (stp_dat (stp_shr rfl rfl (by decide)) rfl) ?_
    refine qe rfl ?_
    refine awp_plain hN rfl ?_
    refine qd rfl ?_
    refine seq_run0 (stp_wrap _ rfl rfl (.inl ⟨rfl, rfl⟩)) ?_
    refine qe rfl ?_
    exact ⟨((shr_ .u64 x3 16), wr (n4 + 16)), H, ⟨rfl, rfl, trivial⟩, trivial⟩
   ·replace H := iff_ h5 H
    refine awp_skip ?_
    exact ⟨(x3, n4), H, ⟨rfl, rfl, trivial⟩, trivial⟩
  ·rintro ⟨x6, n7⟩ H
   replace H : math_bits_Len64_J2 x6 n7 = some r := H
   unfold math_bits_Len64_J2 at H
   refine awp_joinE (ι := Int × Int) (fun i => [(0, .dat (vval (.int .u64 i.1))), (2, .dat (vint i.2))]) (fun i => []) (fun i => math_bits_Len64_J3 i.1 i.2 = some r) (fun i => rfl) ?_ ?_
   ·skip
    refine awp_seq ?_
    refine awp_plain hN rfl ?_
    refine qd rfl ?_
    refine seq_run0 (stp_geq rfl rfl) ?_
    refine awp_cond _ rfl (fun h8 => ?_) (fun h8 => ?_)
    ·replace H := ift h8 H
     refine awp_seq ?_
     refine awp_plain hN rfl ?_
     refine qd rfl ?_
     refine seq_run0 (stp_dat (stp_shr rfl rfl (by decide)) rfl) ?_
     refine qe rfl ?_
     refine awp_plain hN rfl ?_
     refine qd rfl ?_
     refine seq_run0 (stp_wrap _ rfl rfl (.inl ⟨rfl, rfl⟩)) ?_
     refine qe rfl ?_
     exact ⟨((shr_ .u64 x6 8), wr (n7 + 8)), H, ⟨rfl, rfl, trivial⟩, trivial⟩
    ·replace H := iff_ h8 H
     refine awp_skip ?_
     exact ⟨(x6, n7), H, ⟨rfl, rfl, trivial⟩, trivial⟩
   ·rintro ⟨x9, n10⟩ H
    replace H : math_bits_Len64_J3 x9 n10 = some r := H
    unfold math_bits_Len64_J3 at H
    refine awp_seq ?_
    refine awp_plain hN rfl ?_
    refine qd rfl ?_
    refine qd rfl ?_
    refine seq_run0 (stp_conv tyU56 tyU5 rfl) ?_
    obtain ⟨x11, h12, H⟩ := bnd H
    refine seq_run0 (t_byteK tyU9 rfl rfl h12) ?_
    refine seq_run0 (stp_conv tyU5 tyU3 rfl) ?_
    refine seq_run0 (stp_wrap _ rfl rfl (.inl ⟨rfl, rfl⟩)) ?_
    refine qe rfl ?_
    refine awp_ret ?_
    cases H
    exact ⟨trivial, .inl rfl, trivial⟩
theorem k_math_bits_Len (x1 : Int) (r : (Int)) (H : m_math_bits_Len x1 = some r) : Fn Try.prog 44 [vval (.int .u64 x1)] (resOf [vint r]) := by
 refine ⟨by kernel_rfl, pure_of (us := [vint r]) Try.func44 rfl rfl rfl rfl fun X hN => ?_⟩
 unfold m_math_bits_Len at H
 refine awp_seq ?_
 refine awp_plain hN rfl ?_
 refine qe rfl ?_
 refine awp_seq ?_
 refine awp_cond _ rfl (fun h2 => ?_) (fun h2 => ?_)
 ·replace H := ift h2 H
  refine awp_seq ?_
  refine awp_plain hN rfl ?_
  refine qd rfl ?_
  refine seq_run0 (stp_conv tyU65 tyU81 rfl) ?_
  obtain ⟨r3, h4, H⟩ := bnd H
  refine seq_run0 (stp_call (k_math_bits_Len32 (IntKind.wrap .u32 x1) r3 h4) ⟨.inl rfl, trivial⟩) ?_
  refine qe rfl ?_
  refine awp_ret ?_
  cases H
  exact ⟨trivial, .inl rfl, trivial⟩
 ·replace H := iff_ h2 H
  refine awp_skip ?_
  refine awp_seq ?_
  refine awp_plain hN rfl ?_
  refine qd rfl ?_
  obtain ⟨r5, h6, H⟩ := bnd H
  refine seq_run0 (stp_call (k_math_bits_Len64 x1 r5 h6) ⟨.inl rfl, trivial⟩) ?_
  refine qe rfl ?_
  refine awp_ret ?_
  cases H
  exact ⟨trivial, .inl rfl, trivial⟩
theorem kt_slices_insertionSortCmpFunc_api_Instance_ (data1 : (List S_api_Instance)) (a2 : Int) (b3 : Int) (p3 : S_api_Instance → S_api_Instance → Option (Int)) (fv3 : Nat) (us3 : List V) (hp3 : ∀ a0 a1 r, p3 a0 a1 = some r → Fn Try.prog fv3 ([vagg (C_api_Instance a0), vagg (C_api_Instance a1)] ++ us3) (resOf [vint r])) (r : ((List S_api_Instance))) (H : m_slices_insertionSortCmpFunc_api_Instance_ data1 a2 b3 p3 = some r) : FnG Try.prog 50 [.row 0 data1.length, .dat (vint a2), .dat (vint b3), .dat (vfn fv3 us3)] [(0, .rowA undef 45 2 (List.map C_api_Instance data1))] (.dat (resOf [])) [(0, .rowA undef 45 2 (List.map C_api_Instance r))] := by
 refine fnG_of (by kernel_rfl) Try.func50 rfl rfl rfl rfl fun X A hN => ?_
 unfold m_slices_insertionSortCmpFunc_api_Instance_ at H
 refine awp_seq ?_
 refine awp_plain hN rfl ?_
 refine qd rfl ?_
 refine seq_run0 (stp_wrap _ rfl rfl (.inl ⟨rfl, rfl⟩)) ?_
 refine qe rfl ?_
 refine awp_block ?_
 refine awp_iter (fun (s : Int × (List S_api_Instance)) => [(0, .row 0 s.2.length), (1, .dat (vint a2)), (2, .dat (vint b3)), (3, .dat (vfn fv3 us3)), (8, .dat (vint s.1))]) (fun (s : Int × (List S_api_Instance)) => [(0, .rowA (A.vl 0) 45 2 (List.map C_api_Instance s.2))]) (wr (a2 + 1), data1) H ⟨rfl, rfl, rfl, rfl, rfl, trivial⟩ ⟨rfl, trivial⟩ (fun _ => rfl) ?_
 rintro ⟨i4, l5⟩ q6 H hq6
 replace H : slices_insertionSortCmpFunc_api_Instance__L1 a2 b3 p3 i4 l5 = some q6 := H
 unfold slices_insertionSortCmpFunc_api_Instance__L1 at H
 refine awp_seq ?_
 refine awp_seq ?_
 refine awp_plain hN rfl ?_
 refine qd rfl ?_
 refine qd rfl ?_
 refine seq_run0 (stp_lss rfl rfl) ?_
 refine awp_cond _ rfl (fun h7 => ?_) (fun h7 => ?_)
 ·replace H := ift h7 H
  refine awp_skip ?_
  refine awp_joinE (ι := (List S_api_Instance)) (fun i => [(0, .row 0 i.length), (1, .dat (vint a2)), (2, .dat (vint b3)), (3, .dat (vfn fv3 us3)), (8, .dat (vint i4))]) (fun i => [(0, .rowA (A.vl 0) 45 2 (List.map C_api_Instance i))]) (fun i => slices_insertionSortCmpFunc_api_Instance__J2 i4 i = some q6) (fun i => rfl) ?_ ?_
  ·skip
   refine awp_block ?_
   refine awp_seq ?_
   refine awp_plain hN rfl ?_
   refine qd rfl ?_
   refine qe rfl ?_
   refine awp_block ?_
   refine awp_iter (fun (s : Int × (List S_api_Instance)) => [(0, .row 0 s.2.length), (1, .dat (vint a2)), (2, .dat (vint b3)), (3, .dat (vfn fv3 us3)), (8, .dat (vint i4)), (9, .dat (vint s.1))]) (fun (s : Int × (List S_api_Instance)) => [(0, .rowA (A.vl 0) 45 2 (List.map C_api_Instance s.2))]) (i4, l5) H ⟨rfl, rfl, rfl, rfl, rfl, rfl, trivial⟩ ⟨rfl, trivial⟩ (fun _ => rfl) ?_
   rintro ⟨j8, l9⟩ q10 H hq10
   replace H : slices_insertionSortCmpFunc_api_Instance__L3 a2 p3 i4 j8 l9 = some q10 := H
   unfold slices_insertionSortCmpFunc_api_Instance__L3 at H
   refine awp_seq ?_
   refine awp_joinE (ι := Bool) (fun i => [(0, .row 0 l9.length), (1, .dat (vint a2)), (2, .dat (vint b3)), (3, .dat (vfn fv3 us3)), (8, .dat (vint i4)), (9, .dat (vint j8)), (34, .dat (vbool i))]) (fun i => [(0, .rowA (A.vl 0) 45 2 (List.map C_api_Instance l9))]) (fun i => slices_insertionSortCmpFunc_api_Instance__J4 i4 j8 l9 i = some q10) (fun i => rfl) ?_ ?_
   ·skip
    refine awp_draw mixed hN rfl rfl ?_
    refine qd rfl ?_
    refine qd rfl ?_
    refine seq_run0 (stp_gtr rfl rfl) ?_
    refine qd rfl ?_
    refine seq_split (j := 3) rfl rfl (fun h11 => ?_) (fun h11 => ?_) rfl
    ·have h12 := un1 h11
     replace H := ift h12 H
     refine seq_g0 rfl rfl h11 (stp_move (.dat _) rfl) ?_
     refine seq_g0 rfl rfl h11 (stp_move (.row _ _) rfl) ?_
     refine seq_g0 rfl rfl h11 (stp_move (.dat _) rfl) ?_
     obtain ⟨x13, h14, H⟩ := bnd H
     refine seq_g1 rfl rfl h11 (t_idxTI tyE26 rfl rfl rfl h14) rfl ?_
     refine seq_g1 rfl rfl h11 (t_loadTA tyS45 rfl rfl (at_some h14).2 rfl) rfl ?_
     refine seq_g0 rfl rfl h11 (stp_move (.row _ _) rfl) ?_
     refine seq_g0 rfl rfl h11 (stp_move (.dat _) rfl) ?_
     refine seq_g0 rfl rfl h11 (stp_wrap _ rfl rfl (.inr (.inl ⟨rfl, rfl⟩))) ?_
     obtain ⟨x15, h16, H⟩ := bnd H
     refine seq_g1 rfl rfl h11 (t_idxTI tyE26 rfl rfl rfl h16) rfl ?_
     refine seq_g1 rfl rfl h11 (t_loadTA tyS45 rfl rfl (at_some h16).2 rfl) rfl ?_
     obtain ⟨r17, h18, H⟩ := bnd H
     refine seq_g0 rfl rfl h11 (stp_callv (hp3 x13 x15 r17 h18) rfl ⟨.inl rfl, .inl rfl, trivial⟩) ?_
     refine seq_g0 rfl rfl h11 (stp_lss rfl rfl) ?_
     refine seq_run0 (stp_pick_t rfl (bTT h12) rfl) ?_
     refine ⟨rfl, ?_⟩
     exact ⟨decide (r17 < 0), H, ⟨rfl, rfl, rfl, rfl, rfl, rfl, rfl, trivial⟩, ⟨rfl, trivial⟩⟩
    ·have h19 := un2 h11
     replace H := iff_ h19 H
     refine seq_skip rfl rfl h11 ?_
     refine seq_skip rfl rfl h11 ?_
     refine seq_skip rfl rfl h11 ?_
     refine seq_skip rfl rfl h11 ?_
     refine seq_skip rfl rfl h11 ?_
     refine seq_skip rfl rfl h11 ?_
     refine seq_skip rfl rfl h11 ?_
     refine seq_skip rfl rfl h11 ?_
     refine seq_skip rfl rfl h11 ?_
     refine seq_skip rfl rfl h11 ?_
     refine seq_skip rfl rfl h11 ?_
     refine seq_skip rfl rfl h11 ?_
     refine seq_run0 (stp_pick_f rfl (bFF h19) rfl) ?_
     refine ⟨rfl, ?_⟩
     exact ⟨false, H, ⟨rfl, rfl, rfl, rfl, rfl, rfl, rfl, trivial⟩, ⟨rfl, trivial⟩⟩
   ·rintro v20 H
    replace H : slices_insertionSortCmpFunc_api_Instance__J4 i4 j8 l9 v20 = some q10 := H
    unfold slices_insertionSortCmpFunc_api_Instance__J4 at H
    refine awp_cond _ rfl (fun h21 => ?_) (fun h21 => ?_)
    ·replace H := ift h21 H
     refine awp_skip ?_
     refine awp_seq ?_
     refine awp_block ?_
     refine awp_draw mixed hN rfl rfl ?_
     refine seq_run0 (stp_move (.row _ _) rfl) ?_
     refine qd rfl ?_
     refine seq_run0 (stp_move (.row _ _) rfl) ?_
     refine qd rfl ?_
     refine seq_run0 (stp_wrap _ rfl rfl (.inr (.inl ⟨rfl, rfl⟩))) ?_
     refine seq_run0 (stp_move (.row _ _) rfl) ?_
     refine qd rfl ?_
     refine seq_run0 (stp_wrap _ rfl rfl (.inr (.inl ⟨rfl, rfl⟩))) ?_
     obtain ⟨x22, h23, H⟩ := bnd H
     refine seq_run1 (t_idxTI tyE26 rfl rfl rfl h23) rfl ?_
     refine seq_run1 (t_loadTA tyS45 rfl rfl (at_some h23).2 rfl) rfl ?_
     refine seq_run0 (stp_move (.row _ _) rfl) ?_
     refine qd rfl ?_
     obtain ⟨x24, h25, H⟩ := bnd H
     refine seq_run1 (t_idxTI tyE26 rfl rfl rfl h25) rfl ?_
     refine seq_run1 (t_loadTA tyS45 rfl rfl (at_some h25).2 rfl) rfl ?_
     refine seq_run1 (t_idxTI tyE26 rfl rfl rfl h25) rfl ?_
     refine seq_run2 (t_storeTA (C := C_api_Instance) tyS45 rfl rfl rfl (at_lt (at_some h25).2) rfl rfl) rfl ?_
     obtain ⟨x26, h27, H⟩ := bnd H
     refine seq_run1 (t_idxTI tyE26 rfl (by simp) rfl h27) rfl ?_
     refine seq_run2 (t_storeTA (C := C_api_Instance) tyS45 rfl rfl (by simp) (at_lt (at_some h27).2) rfl rfl) rfl ?_
     refine ⟨rfl, ?_⟩
     refine awp_plain hN rfl ?_
     refine qd rfl ?_
     refine seq_run0 (stp_wrap _ rfl rfl (.inr (.inl ⟨rfl, rfl⟩))) ?_
     refine qe rfl ?_
     exact ⟨_, backl H, ⟨congrArg (Slot.row 0) (by simp), rfl, rfl, rfl, rfl, rfl, trivial⟩, ⟨rfl, trivial⟩⟩
    ·replace H := iff_ h21 H
     refine awp_exit ?_
     replace H := outl H hq10
     exact ⟨l9, H, ⟨rfl, rfl, rfl, rfl, rfl, trivial⟩, ⟨rfl, trivial⟩⟩
  ·rintro data28 H
   replace H : slices_insertionSortCmpFunc_api_Instance__J2 i4 data28 = some q6 := H
   unfold slices_insertionSortCmpFunc_api_Instance__J2 at H
   refine awp_plain hN rfl ?_
   refine qd rfl ?_
   refine seq_run0 (stp_wrap _ rfl rfl (.inl ⟨rfl, rfl⟩)) ?_
   refine qe rfl ?_
   exact ⟨_, backl H, ⟨rfl, rfl, rfl, rfl, rfl, trivial⟩, ⟨rfl, trivial⟩⟩
 ·replace H := iff_ h7 H
  refine awp_exit ?_
  replace H := retl H hq6
  have eH : l5 = r := Option.some.inj H
  subst eH
  exact ⟨trivial, [], trivial, ⟨rfl, trivial⟩, rfl, .inl ⟨[], trivial, rfl⟩⟩
theorem kt_slices_pdqsortCmpFunc_api_Instance_ (v1 : (List S_api_Instance)) (v2 : Int) (v3 : Int) (v4 : Int) (p4 : S_api_Instance → S_api_Instance → Option (Int)) (fv4 : Nat) (us4 : List V) (hp4 : ∀ a0 a1 r, p4 a0 a1 = some r → Fn Try.prog fv4 ([vagg (C_api_Instance a0), vagg (C_api_Instance a1)] ++ us4) (resOf [vint r])) (r : ((List S_api_Instance))) (H : m_slices_pdqsortCmpFunc_api_Instance_ v1 v2 v3 v4 p4 = some r) : FnG Try.prog 43 [.row 0 v1.length, .dat (vint v2), .dat (vint v3), .dat (vint v4), .dat (vfn fv4 us4)] [(0, .rowA undef 45 2 (List.map C_api_Instance v1))] (.dat (resOf [])) [(0, .rowA undef 45 2 (List.map C_api_Instance r))] := by
 refine fnG_of (by kernel_rfl) Try.func43 rfl rfl rfl rfl fun X A hN => ?_
 unfold m_slices_pdqsortCmpFunc_api_Instance_ at H
 refine awp_seq ?_
 refine awp_plain hN rfl ?_
 refine qe rfl ?_
 refine awp_seq ?_
 refine awp_plain hN rfl ?_
 refine qe rfl ?_
 refine awp_block ?_
 refine awp_iter (fun (s : Int × Int × Int × Bool × Bool) => [(0, .row 0 v1.length), (1, .dat (vint s.1)), (2, .dat (vint s.2.1)), (3, .dat (vint s.2.2.1)), (4, .dat (vfn fv4 us4)), (10, .dat (vbool s.2.2.2.1)), (11, .dat (vbool s.2.2.2.2))]) (fun (s : Int × Int × Int × Bool × Bool) => [(0, .rowA (A.vl 0) 45 2 (List.map C_api_Instance v1))]) (v2, v3, v4, true, true) H ⟨rfl, rfl, rfl, rfl, rfl, rfl, rfl, trivial⟩ ⟨rfl, trivial⟩ (fun _ => rfl) ?_
 rintro ⟨v5, v6, v7, v8, v9⟩ q10 H hq10
 replace H : slices_pdqsortCmpFunc_api_Instance__L1 v1 p4 v5 v6 v7 v8 v9 = some q10 := H
 unfold slices_pdqsortCmpFunc_api_Instance__L1 at H
 refine awp_block ?_
 refine awp_seq ?_
 refine awp_plain hN rfl ?_
 refine qd rfl ?_
 refine qd rfl ?_
 refine seq_run0 (stp_wrap _ rfl rfl (.inr (.inl ⟨rfl, rfl⟩))) ?_
 refine qe rfl ?_
 refine awp_seq ?_
 refine awp_seq ?_
 refine awp_plain hN rfl ?_
 refine qd rfl ?_
 refine seq_run0 (stp_leq rfl rfl) ?_
 refine awp_cond _ rfl (fun h11 => ?_) (fun h11 => ?_)
 ·replace H := ift h11 H
  refine awp_seq ?_
  refine awp_plain hN rfl ?_
  refine seq_run0 (stp_move (.row _ _) rfl) ?_
  refine qd rfl ?_
  refine qd rfl ?_
  refine qd rfl ?_
  obtain ⟨r12, h13, H⟩ := bnd H
  obtain ⟨h14, H⟩ := gif H
  refine seq_callG (rn [(0, 0)]) [(0, _, _, some _)] [] (kt_slices_insertionSortCmpFunc_api_Instance_ v1 v5 v6 p4 fv4 us4 hp4 r12 h13) ⟨rfl, trivial⟩ ⟨.inl (.inl rfl), .inl (.inl rfl), .inl (.inl rfl), .inl (.inl rfl), trivial⟩ ⟨⟨⟨rfl, rfl, rfl⟩, by simp [stayP, h14]⟩, trivial⟩ rfl ?_
  refine awp_ret ?_
  replace H := retl H hq10
  have eH : r12 = r := Option.some.inj H
  subst eH
  exact ⟨trivial, [], trivial, ⟨rfl, trivial⟩, rfl, .inl ⟨[], trivial, rfl⟩⟩
 ·replace H := iff_ h11 H
  refine awp_skip ?_
  refine awp_seq ?_
  refine awp_seq ?_
  refine awp_plain hN rfl ?_
  refine qd rfl ?_
  refine seq_run0 (stp_eql rfl rfl) ?_
  refine awp_cond _ rfl (fun h15 => ?_) (fun h15 => ?_)
  ·replace H := ift h15 H
   cases H
  ·replace H := iff_ h15 H
   cases H
theorem kt_slices_SortFunc_L_api_Instance_api_Instance_ (x1 : (List S_api_Instance)) (p1 : S_api_Instance → S_api_Instance → Option (Int)) (fv1 : Nat) (us1 : List V) (hp1 : ∀ a0 a1 r, p1 a0 a1 = some r → Fn Try.prog fv1 ([vagg (C_api_Instance a0), vagg (C_api_Instance a1)] ++ us1) (resOf [vint r])) (r : ((List S_api_Instance))) (H : m_slices_SortFunc_L_api_Instance_api_Instance_ x1 p1 = some r) : FnG Try.prog 32 [.row 0 x1.length, .dat (vfn fv1 us1)] [(0, .rowA undef 45 2 (List.map C_api_Instance x1))] (.dat (resOf [])) [(0, .rowA undef 45 2 (List.map C_api_Instance r))] := by
 refine fnG_of (by kernel_rfl) Try.func32 rfl rfl rfl rfl fun X A hN => ?_
 unfold m_slices_SortFunc_L_api_Instance_api_Instance_ at H
 refine awp_seq ?_
 refine awp_plain hN rfl ?_
 refine seq_run0 (stp_move (.row _ _) rfl) ?_
 refine seq_run1 (t_lenT tyU26 rfl rfl) rfl ?_
 refine qe rfl ?_
 refine awp_plain hN rfl ?_
 refine seq_run0 (stp_move (.row _ _) rfl) ?_
 refine qd rfl ?_
 refine qd rfl ?_
 refine seq_run0 (stp_conv tyU3 tyU65 rfl) ?_
 obtain ⟨r2, h3, H⟩ := bnd H
 refine seq_run0 (stp_call (k_math_bits_Len (IntKind.wrap .u64 (x1.length : Int)) r2 h3) ⟨.inl rfl, trivial⟩) ?_
 refine qd rfl ?_
 obtain ⟨r4, h5, H⟩ := bnd H
 obtain ⟨h6, H⟩ := gif H
 refine seq_callG (rn [(0, 0)]) [(0, _, _, some _)] [] (kt_slices_pdqsortCmpFunc_api_Instance_ x1 0 (x1.length : Int) r2 p1 fv1 us1 hp1 r4 h5) ⟨rfl, trivial⟩ ⟨.inl (.inl rfl), .inl (.inl rfl), .inl (.inl rfl), .inl (.inl rfl), .inl (.inl rfl), trivial⟩ ⟨⟨⟨rfl, rfl, rfl⟩, by simp [stayP, h6]⟩, trivial⟩ rfl ?_
 have eH : r4 = r := Option.some.inj H
 subst eH
 exact ⟨trivial, [], trivial, ⟨rfl, trivial⟩, rfl, .inl ⟨[], trivial, rfl⟩⟩
theorem k_cmp_isNaN_int_ (x1 : Int) (r : (Bool)) (H : m_cmp_isNaN_int_ x1 = some r) : Fn Try.prog 45 [vint x1] (resOf [vbool r]) := by
 refine ⟨by kernel_rfl, pure_of (us := [vbool r]) Try.func45 rfl rfl rfl rfl fun X hN => ?_⟩
 unfold m_cmp_isNaN_int_ at H
 refine awp_seq ?_
 refine awp_plain hN rfl ?_
 refine qe rfl ?_
 refine awp_seq ?_
 refine awp_plain hN rfl ?_
 refine qd rfl ?_
 refine qd rfl ?_
 refine seq_run0 (stp_neq rfl rfl) ?_
 refine qe rfl ?_
 refine awp_ret ?_
 cases H
 exact ⟨trivial, .inl rfl, trivial⟩
theorem k_cmp_Compare_int_ (x1 : Int) (y2 : Int) (r : (Int)) (H : m_cmp_Compare_int_ x1 y2 = some r) : Fn Try.prog 35 [vint x1, vint y2] (resOf [vint r]) := by
 refine ⟨by kernel_rfl, pure_of (us := [vint r]) Try.func35 rfl rfl rfl rfl fun X hN => ?_⟩
 unfold m_cmp_Compare_int_ at H
 refine awp_seq ?_
 refine awp_plain hN rfl ?_
 refine qe rfl ?_
 refine awp_seq ?_
 refine awp_plain hN rfl ?_
 refine qd rfl ?_
 obtain ⟨r3, h4, H⟩ := bnd H
 refine seq_run0 (stp_call (k_cmp_isNaN_int_ x1 r3 h4) ⟨.inl rfl, trivial⟩) ?_
 refine qe rfl ?_
 refine awp_seq ?_
 refine awp_plain hN rfl ?_
 refine qd rfl ?_
 obtain ⟨r5, h6, H⟩ := bnd H
 refine seq_run0 (stp_call (k_cmp_isNaN_int_ y2 r5 h6) ⟨.inl rfl, trivial⟩) ?_
 refine qe rfl ?_
 refine awp_seq ?_
 refine awp_seq ?_
 refine awp_plain hN rfl ?_
 refine qd rfl ?_
 refine awp_cond _ rfl (fun h7 => ?_) (fun h7 => ?_)
 ·replace H := ift h7 H
  refine awp_seq ?_
  refine awp_seq ?_
  refine awp_plain hN rfl ?_
  refine qd rfl ?_
  refine awp_cond _ rfl (fun h8 => ?_) (fun h8 => ?_)
  ·replace H := ift h8 H
   refine awp_seq ?_
   refine awp_plain hN rfl ?_
   refine qe rfl ?_
   refine awp_ret ?_
   cases H
   exact ⟨trivial, .inl rfl, trivial⟩
  ·replace H := iff_ h8 H
   refine awp_skip ?_
   refine awp_seq ?_
   refine awp_plain hN rfl ?_
   refine qe rfl ?_
   refine awp_ret ?_
   cases H
   exact ⟨trivial, .inl rfl, trivial⟩
 ·replace H := iff_ h7 H
  refine awp_skip ?_
  refine awp_seq ?_
  refine awp_seq ?_
  refine awp_plain hN rfl ?_
  refine qd rfl ?_
  refine awp_cond _ rfl (fun h9 => ?_) (fun h9 => ?_)
  ·replace H := ift h9 H
   refine awp_seq ?_
   refine awp_plain hN rfl ?_
   refine qe rfl ?_
   refine awp_ret ?_
   cases H
   exact ⟨trivial, .inl rfl, trivial⟩
  ·replace H := iff_ h9 H
   refine awp_skip ?_
   refine awp_seq ?_
   refine awp_seq ?_
   refine awp_plain hN rfl ?_
   refine qd rfl ?_
   refine qd rfl ?_
   refine seq_run0 (stp_lss rfl rfl) ?_
   refine awp_cond _ rfl (fun h10 => ?_) (fun h10 => ?_)
   ·replace H := ift h10 H
    refine awp_seq ?_
    refine awp_plain hN rfl ?_
    refine qe rfl ?_
    refine awp_ret ?_
    cases H
    exact ⟨trivial, .inl rfl, trivial⟩
   ·replace H := iff_ h10 H
    refine awp_skip ?_
    refine awp_seq ?_
    refine awp_seq ?_
    refine awp_plain hN rfl ?_
    refine qd rfl ?_
    refine qd rfl ?_
    refine seq_run0 (stp_gtr rfl rfl) ?_
    refine awp_cond _ rfl (fun h11 => ?_) (fun h11 => ?_)
    ·replace H := ift h11 H
     refine awp_seq ?_
     refine awp_plain hN rfl ?_
     refine qe rfl ?_
     refine awp_ret ?_
     cases H
     exact ⟨trivial, .inl rfl, trivial⟩
    ·replace H := iff_ h11 H
     refine awp_skip ?_
     refine awp_seq ?_
     refine awp_plain hN rfl ?_
     refine qe rfl ?_
     refine awp_ret ?_
     cases H
     exact ⟨trivial, .inl rfl, trivial⟩
theorem k_strings_Compare (a b : Bs) (r : Int) (H : m_strings_Compare a b = some r) : Fn Try.prog 36 [vstr a, vstr b] (resOf [vint r]) := by
 cases H
 refine fn_of_calls (by kernel_rfl) fun M w vs h => ?_
 have h1 := Ts_vals (us := [.string ⟨a.toArray⟩, .string ⟨b.toArray⟩]) h
 subst h1
 refine (Try.strings_Compare ⟨a.toArray⟩ ⟨b.toArray⟩ w).mono ?_
 rintro e w' ⟨rfl, rfl⟩
 exact ⟨_, rfl, rfl, Kp.refl _ _⟩
theorem k_cmp_Or_int_ (vals1 : (List Int)) (r : (Int)) (H : m_cmp_Or_int_ vals1 = some r) : Fn Try.prog 34 [vlst (List.map C_int vals1)] (resOf [vint r]) := by
 refine ⟨by kernel_rfl, pure_of (us := [vint r]) Try.func34 rfl rfl rfl rfl fun X hN => ?_⟩
 unfold m_cmp_Or_int_ at H
 refine awp_seq ?_
 refine awp_plain hN rfl ?_
 refine qe rfl ?_
 refine awp_seq ?_
 refine awp_plain hN rfl ?_
 refine qe rfl ?_
 refine awp_seq ?_
 refine awp_seq ?_
 refine awp_plain hN rfl ?_
 refine qd rfl ?_
 refine seq_run0 (t_len tyU22 rfl) ?_
 refine qd rfl ?_
 refine awp_block ?_
 obtain ⟨h4, H⟩ := gif H
 refine awp_forL (fun (k2 : Nat) (s : Unit) => [(3, .dat (vint 0)), (6, .dat (vlst (List.map C_int vals1))), (7, .dat (vint (vals1.length : Int))), (8, .dat (vint (k2 : Int)))]) (fun (k2 : Nat) (s : Unit) => []) () H ⟨rfl, rfl, rfl, rfl, trivial⟩ trivial (fun _ _ => rfl) ?_ ?_
 ·rintro ⟨⟩ H
  replace H : cmp_Or_int__E1 = some r := H
  unfold cmp_Or_int__E1 at H
  refine awp_seq ?_
  refine awp_plain hN rfl ?_
  refine seq_run0 (stp_lss rfl rfl) ?_
  refine awp_seq ?_
  refine awp_cond _ rfl (fun h => (lt_t h).elim) (fun h => ?_)
  refine awp_exit ?_
  refine awp_seq ?_
  refine awp_plain hN rfl ?_
  refine qd rfl ?_
  refine qe rfl ?_
  refine awp_ret ?_
  cases H
  exact ⟨trivial, .inl rfl, trivial⟩
 ·rintro k2 x5 ⟨⟩ q3 h6 h7 H hq3
  replace H : cmp_Or_int__L1 k2 x5 = some q3 := H
  unfold cmp_Or_int__L1 at H
  refine awp_seq ?_
  refine awp_plain hN rfl ?_
  refine seq_run0 (stp_lss rfl rfl) ?_
  refine awp_seq ?_
  refine awp_cond _ rfl (fun h => ?_) (fun h => (lt_f h6 h).elim)
  refine awp_skip ?_
  refine awp_seq ?_
  refine awp_block ?_
  refine awp_seq ?_
  refine awp_plain hN rfl ?_
  refine seq_run0 (t_idx tyE22 (fun _ => rfl) rfl rfl h7) ?_
  refine seq_run0 (stp_loadE1 tyS3 rfl (map_at h7) rfl) ?_
  refine qe rfl ?_
  refine awp_seq ?_
  refine awp_plain hN rfl ?_
  refine qd rfl ?_
  refine qd rfl ?_
  refine seq_run0 (stp_neq rfl rfl) ?_
  refine awp_cond _ rfl (fun h8 => ?_) (fun h8 => ?_)
  ·replace H := ift h8 H
   refine awp_seq ?_
   refine awp_plain hN rfl ?_
   refine qd rfl ?_
   refine qe rfl ?_
   refine awp_ret ?_
   replace H := retl H hq3
   cases H
   exact ⟨trivial, .inl rfl, trivial⟩
  ·replace H := iff_ h8 H
   refine awp_skip ?_
   refine awp_plain hN rfl ?_
   refine seq_run0 (stp_add rfl rfl (by omega)) ?_
   refine qd rfl ?_
   exact ⟨_, backl H, ⟨rfl, rfl, rfl, rfl, trivial⟩, trivial⟩
theorem k_upstream_ordered_1 (a1 : S_api_Instance) (b2 : S_api_Instance) (c3 : (Nat × (Bs → Int))) (r : (Int)) (H : m_upstream_ordered_1 a1 b2 c3 = some r) : Fn Try.prog 33 [vagg (C_api_Instance a1), vagg (C_api_Instance b2), vcell [[vmpI Try.prog 9 3 c3.1 c3.2]] 0 0] (resOf [vint r]) := by
 refine ⟨by kernel_rfl, pure_of (us := [vint r]) Try.func33 rfl rfl rfl rfl fun X hN => ?_⟩
 unfold m_upstream_ordered_1 at H
 refine awp_seq ?_
 refine awp_plain hN rfl ?_
 refine seq_run2 (stp_boxA 1 rfl) rfl ?_
 refine seq_run2 (stp_boxA 2 rfl) rfl ?_
 refine qe rfl ?_
 refine awp_seq ?_
 refine awp_draw mixed hN rfl rfl ?_
 refine seq_run0 (stp_loadE1 tyS55 rfl rfl rfl) ?_
 refine seq_run0 (stp_fldP tyF45_0 rfl) ?_
 refine seq_run1 (stp_load1 tyS9 rfl rfl) rfl ?_
 obtain ⟨h4, H⟩ := gif H
 refine seq_run0 (stp_lookV tyM55 rfl rfl h4) ?_
 refine seq_run0 (stp_loadE1 tyS55 rfl rfl rfl) ?_
 refine seq_run0 (stp_fldP tyF45_0 rfl) ?_
 refine seq_run1 (stp_load1 tyS9 rfl rfl) rfl ?_
 obtain ⟨h5, H⟩ := gif H
 refine seq_run0 (stp_lookV tyM55 rfl rfl h5) ?_
 obtain ⟨r6, h7, H⟩ := bnd H
 refine seq_run0 (stp_call (k_cmp_Compare_int_ (c3.2 b2.Key) (c3.2 a1.Key) r6 h7) ⟨.inl rfl, .inl rfl, trivial⟩) ?_
 refine seq_run0 (stp_fldP tyF45_0 rfl) ?_
 refine seq_run1 (stp_load1 tyS9 rfl rfl) rfl ?_
 refine seq_run0 (stp_fldP tyF45_0 rfl) ?_
 refine seq_run1 (stp_load1 tyS9 rfl rfl) rfl ?_
 obtain ⟨r8, h9, H⟩ := bnd H
 refine seq_run0 (stp_call (k_strings_Compare a1.Key b2.Key r8 h9) ⟨.inl rfl, .inl rfl, trivial⟩) ?_
 refine seq_run0 (stp_dat (u' := vlst (List.map C_int [r6, r8])) (stp_lit [[_], [_]] tyL22 ⟨rfl, .inl ⟨_, rfl, rfl, rfl⟩, rfl, rfl, .inl ⟨_, rfl, rfl, rfl⟩, rfl, trivial⟩ rfl rfl) rfl) ?_
 obtain ⟨r10, h11, H⟩ := bnd H
 refine seq_run0 (stp_call (k_cmp_Or_int_ [r6, r8] r10 h11) ⟨.inl rfl, trivial⟩) ?_
 refine qe rfl ?_
 refine ⟨rfl, ?_⟩
 refine awp_ret ?_
 cases H
 exact ⟨trivial, .inl rfl, trivial⟩
theorem k_upstream_Hash (s1 : Bs) (r : (Int)) (H : m_upstream_Hash s1 = some r) : Fn Try.prog 30 [vstr s1] (resOf [vval (.int .u64 r)]) := by
 refine ⟨by kernel_rfl, pure_of (us := [vval (.int .u64 r)]) Try.func30 rfl rfl rfl rfl fun X hN => ?_⟩
 unfold m_upstream_Hash at H
 refine awp_seq ?_
 refine awp_plain hN rfl ?_
 refine qe rfl ?_
 refine awp_seq ?_
 refine awp_plain hN rfl ?_
 refine qe rfl ?_
 refine awp_seq ?_
 refine awp_seq ?_
 refine awp_plain hN rfl ?_
 refine qd rfl ?_
 refine seq_run0 (stp_len_str tyU9 rfl) ?_
 refine qd rfl ?_
 refine awp_block ?_
 obtain ⟨h5, H⟩ := gif H
 refine awp_forL (fun (k3 : Nat) (s : Int) => [(0, .dat (vstr s1)), (3, .dat (vval (.int .u64 s))), (6, .dat (vint (s1.length : Int))), (7, .dat (vint (k3 : Int)))]) (fun (k3 : Nat) (s : Int) => []) 14695981039346656037 H ⟨rfl, rfl, rfl, rfl, trivial⟩ trivial (fun _ _ => rfl) ?_ ?_
 ·rintro h2 H
  replace H : upstream_Hash_E1 h2 = some r := H
  unfold upstream_Hash_E1 at H
  refine awp_seq ?_
  refine awp_plain hN rfl ?_
  refine seq_run0 (stp_lss rfl rfl) ?_
  refine awp_seq ?_
  refine awp_cond _ rfl (fun h => (lt_t h).elim) (fun h => ?_)
  refine awp_exit ?_
  refine awp_seq ?_
  refine awp_plain hN rfl ?_
  refine qd rfl ?_
  refine qd rfl ?_
  refine seq_run0 (stp_dat (stp_shr rfl rfl (by decide)) rfl) ?_
  refine seq_run0 (stp_dat (stp_xor rfl rfl) rfl) ?_
  refine qe rfl ?_
  refine awp_ret ?_
  cases H
  exact ⟨trivial, .inl rfl, trivial⟩
 ·rintro k3 x6 h2 q4 h7 h8 H hq4
  replace H : upstream_Hash_L1 k3 x6 h2 = some q4 := H
  unfold upstream_Hash_L1 at H
  refine awp_seq ?_
  refine awp_plain hN rfl ?_
  refine seq_run0 (stp_lss rfl rfl) ?_
  refine awp_seq ?_
  refine awp_cond _ rfl (fun h => ?_) (fun h => (lt_f h7 h).elim)
  refine awp_skip ?_
  refine awp_seq ?_
  refine awp_block ?_
  refine awp_seq ?_
  refine awp_plain hN rfl ?_
  refine qd rfl ?_
  refine qe rfl ?_
  refine awp_plain hN rfl ?_
  refine qd rfl ?_
  refine qd rfl ?_
  refine qd rfl ?_
  refine seq_run0 (t_byte tyU9 rfl rfl h8) ?_
  refine seq_run0 (stp_conv tyU5 tyU56 rfl) ?_
  refine seq_run0 (stp_dat (stp_xor rfl rfl) rfl) ?_
  refine seq_run0 (stp_wrap _ rfl rfl (.inr (.inr ⟨rfl, rfl⟩))) ?_
  refine qe rfl ?_
  refine awp_plain hN rfl ?_
  refine seq_run0 (stp_add rfl rfl (by omega)) ?_
  refine qd rfl ?_
  exact ⟨_, backl H, ⟨rfl, rfl, rfl, rfl, trivial⟩, trivial⟩
theorem k_upstream_ordered (l1 : (List S_api_Instance)) (key2 : Bs) (r : ((List S_api_Instance))) (H : m_upstream_ordered l1 key2 = some r) : Fn Try.prog 21 [vlst (List.map C_api_Instance l1), vstr key2] (resOf [vlst (List.map C_api_Instance r)]) := by
 refine ⟨by kernel_rfl, pure_of (us := [vlst (List.map C_api_Instance r)]) Try.func21 rfl rfl rfl rfl fun X hN => ?_⟩
 unfold m_upstream_ordered at H
 refine awp_seq ?_
 refine awp_plain hN rfl ?_
 refine qe rfl ?_
 refine awp_seq ?_
 refine awp_plain hN rfl ?_
 refine seq_run2 (stp_mkI 1 tyM55) rfl ?_
 refine seq_run2 (stp_alloc 2 tyZ55 rfl) rfl ?_
 refine seq_run2 (stp_storeM tyS55 rfl rfl rfl) rfl ?_
 refine awp_seq ?_
 refine awp_seq ?_
 refine awp_plain hN rfl ?_
 refine qd rfl ?_
 refine seq_run0 (t_len tyU26 rfl) ?_
 refine qd rfl ?_
 refine awp_block ?_
 obtain ⟨h7, H⟩ := gif H
 refine awp_forL (fun (k5 : Nat) (s : (Bs → Int) × Nat) => [(0, .dat (vlst (List.map C_api_Instance l1))), (1, .dat (vstr key2)), (5, .ptr 2 0), (9, .dat (vlst (List.map C_api_Instance l1))), (10, .dat (vint (l1.length : Int))), (11, .dat (vint (k5 : Int)))]) (fun (k5 : Nat) (s : (Bs → Int) × Nat) => [(1, .opq none (mapIO Try.prog 9 3 s.2 s.1)), (2, .box none 55 [.mp 1])]) ((fun _ => 0), 0) H ⟨rfl, rfl, rfl, rfl, rfl, rfl, trivial⟩ ⟨rfl, rfl, trivial⟩ (fun _ _ => rfl) ?_ ?_
 ·rintro ⟨m3, m4⟩ H
  replace H : upstream_ordered_E1 l1 m3 m4 = some r := H
  unfold upstream_ordered_E1 at H
  refine awp_seq ?_
  refine awp_plain hN rfl ?_
  refine seq_run0 (stp_lss rfl rfl) ?_
  refine awp_seq ?_
  refine awp_cond _ rfl (fun h => (lt_t h).elim) (fun h => ?_)
  refine awp_exit ?_
  refine awp_seq ?_
  refine awp_plain hN rfl ?_
  refine qd rfl ?_
  obtain ⟨r9, h10, H⟩ := bnd H
  refine seq_callG (rn [(900, 3)]) [] [(900, _)] (kr_slices_Clone_L_api_Instance_api_Instance_ l1 r9 h10) ⟨rfl, trivial⟩ ⟨.inl (.inl rfl), trivial⟩ trivial rfl ?_
  refine seq_run0 (stp_assign (.row _ _) rfl) ?_
  refine awp_seq ?_
  refine awp_frzM 2 0 1 rfl rfl rfl ?_
  refine awp_frzB 2 [vmpI Try.prog 9 3 (m4, m3).1 (m4, m3).2] rfl rfl ?_
  refine awp_plain hN rfl ?_
  refine seq_run0 (stp_move (.row _ _) rfl) ?_
  refine seq_run0 (stp_mkfn (us := [_]) ⟨rfl, trivial⟩) ?_
  obtain ⟨r11, h12, H⟩ := bnd H
  obtain ⟨h13, H⟩ := gif H
  refine seq_callG (rn [(0, 3)]) [(0, _, _, some _)] [] (kt_slices_SortFunc_L_api_Instance_api_Instance_ r9 (fun (a0 : S_api_Instance) (a1 : S_api_Instance) => m_upstream_ordered_1 a0 a1 (m4, m3)) 33 [vcell [[vmpI Try.prog 9 3 (m4, m3).1 (m4, m3).2]] 0 0] (fun a0 a1 r h => k_upstream_ordered_1 a0 a1 (m4, m3) r h) r11 h12) ⟨rfl, trivial⟩ ⟨.inl (.inl rfl), .inl (.inl rfl), trivial⟩ ⟨⟨⟨rfl, rfl, rfl⟩, by simp [stayP, h13]⟩, trivial⟩ rfl ?_
  refine awp_seq ?_
  refine awp_plain hN rfl ?_
  refine seq_run0 (stp_move (.row _ _) rfl) ?_
  refine seq_run0 (stp_assign (.row _ _) rfl) ?_
  refine awp_ret ?_
  cases H
  exact ⟨trivial, t_slotv rfl (h13).symm, trivial⟩
 ·rintro k5 x8 ⟨m3, m4⟩ q6 h14 h15 H hq6
  replace H : upstream_ordered_L1 key2 k5 x8 m3 m4 = some q6 := H
  unfold upstream_ordered_L1 at H
  refine awp_seq ?_
  refine awp_plain hN rfl ?_
  refine seq_run0 (stp_lss rfl rfl) ?_
  refine awp_seq ?_
  refine awp_cond _ rfl (fun h => ?_) (fun h => (lt_f h14 h).elim)
  refine awp_skip ?_
  refine awp_seq ?_
  refine awp_block ?_
  refine awp_seq ?_
  refine awp_plain hN rfl ?_
  refine seq_run0 (t_idx tyE26 (fun _ => rfl) rfl rfl h15) ?_
  refine seq_run0 (stp_loadEA tyS45 rfl (map_at h15) rfl) ?_
  refine seq_run2 (stp_alloc 4 tyZ45 rfl) rfl ?_
  refine seq_run2 (stp_storeW tyS45 rfl rfl rfl rfl) rfl ?_
  refine awp_draw mixed hN rfl rfl ?_
  refine seq_run1 (stp_load1 tyS55 rfl rfl) rfl ?_
  refine seq_run0 (stp_fldP tyF45_0 rfl) ?_
  refine seq_run1 (stp_load1 tyS9 rfl rfl) rfl ?_
  refine qd rfl ?_
  obtain ⟨h16, H⟩ := gif H
  refine seq_run0 (stp_sadd rfl rfl (Nat.le_trans h16 (by decide))) ?_
  refine seq_run0 (stp_fldP tyF45_0 rfl) ?_
  refine seq_run1 (stp_load1 tyS9 rfl rfl) rfl ?_
  obtain ⟨h17, H⟩ := gif H
  refine seq_run0 (stp_sadd rfl rfl (Nat.le_trans h17 (by decide))) ?_
  obtain ⟨r18, h19, H⟩ := bnd H
  refine seq_run0 (stp_call (k_upstream_Hash ((key2 ++ [0]) ++ x8.Key) r18 h19) ⟨.inl rfl, trivial⟩) ?_
  refine seq_run0 (stp_remK rfl rfl (by decide)) ?_
  refine seq_run0 (stp_conv tyU56 tyU3 rfl) ?_
  refine seq_run0 (stp_fldP tyF45_1 rfl) ?_
  refine seq_run1 (stp_load1 tyS3 rfl rfl) rfl ?_
  refine seq_run0 (stp_wrap _ rfl rfl (.inr (.inr ⟨rfl, rfl⟩))) ?_
  obtain ⟨h20, H⟩ := gif H
  refine seq_run2 (stp_putI tyM55 rfl rfl rfl h20.1 h20.2.1 h20.2.2) rfl ?_
  refine ⟨rfl, ?_⟩
  refine awp_plain hN rfl ?_
  refine seq_run0 (stp_add rfl rfl (by omega)) ?_
  refine qd rfl ?_
  exact ⟨_, backl H, ⟨rfl, rfl, rfl, rfl, rfl, rfl, trivial⟩, ⟨rfl, rfl, trivial⟩⟩
theorem k_upstream_keyFault (key1 : Bs) (r : (Int)) (H : m_upstream_keyFault key1 = some r) : Fn Try.prog 20 [vstr key1] (resOf [vint r]) := by
 refine ⟨by kernel_rfl, pure_of (us := [vint r]) Try.func20 rfl rfl rfl rfl fun X hN => ?_⟩
 unfold m_upstream_keyFault at H
 refine awp_seq ?_
 refine awp_plain hN rfl ?_
 refine qe rfl ?_
 refine awp_seq ?_
 refine awp_seq ?_
 refine awp_plain hN rfl ?_
 refine qd rfl ?_
 refine seq_run0 (stp_seql rfl rfl) ?_
 refine qd rfl ?_
 refine seq_aF rfl rfl (fun hc => stp_move (.dat _) rfl) ?_
 refine seq_aF rfl rfl (fun hc => stp_len_str tyU9 (cnd (c := (!(decide (key1 = [])))) hc)) ?_
 refine seq_aF rfl rfl (fun hc => stp_gtr (cnd (c := (!(decide (key1 = [])))) hc) rfl) ?_
 refine seq_run0 (stp_pick_or rfl rfl (fun hb => (cnd (c := (!(decide (key1 = [])))) (notI hb)))) ?_
 refine awp_cond _ rfl (fun h2 => ?_) (fun h2 => ?_)
 ·replace H := ift h2 H
  refine awp_seq ?_
  refine awp_plain hN rfl ?_
  refine qe rfl ?_
  refine awp_ret ?_
  cases H
  exact ⟨trivial, .inl rfl, trivial⟩
 ·replace H := iff_ h2 H
  refine awp_skip ?_
  refine awp_seq ?_
  refine awp_plain hN rfl ?_
  refine qe rfl ?_
  refine awp_ret ?_
  cases H
  exact ⟨trivial, .inl rfl, trivial⟩
theorem k_kit_IsKey (s1 : Bs) (r : (Bool)) (H : m_kit_IsKey s1 = some r) : Fn Try.prog 28 [vstr s1] (resOf [vbool r]) := by
 refine ⟨by kernel_rfl, pure_of (us := [vbool r]) Try.func28 rfl rfl rfl rfl fun X hN => ?_⟩
 unfold m_kit_IsKey at H
 refine awp_seq ?_
 refine awp_plain hN rfl ?_
 refine qe rfl ?_
 refine awp_seq ?_
 refine awp_seq ?_
 refine awp_plain hN rfl ?_
 refine qe rfl ?_
 refine awp_block ?_
 obtain ⟨h4, H⟩ := gif H
 refine awp_forL (fun (i2 : Nat) (s : Unit) => [(0, .dat (vstr s1)), (3, .dat (vint (i2 : Int)))]) (fun (i2 : Nat) (s : Unit) => []) () H ⟨rfl, rfl, trivial⟩ trivial (fun _ _ => rfl) ?_ ?_
 ·rintro ⟨⟩ H
  replace H : kit_IsKey_E1 s1 = some r := H
  unfold kit_IsKey_E1 at H
  refine awp_seq ?_
  refine awp_seq ?_
  refine awp_plain hN rfl ?_
  refine qd rfl ?_
  refine qd rfl ?_
  refine seq_run0 (stp_len_str tyU9 rfl) ?_
  refine seq_run0 (stp_lss rfl rfl) ?_
  refine awp_cond _ rfl (fun h => (lt_t h).elim) (fun h => ?_)
  refine awp_exit ?_
  refine awp_seq ?_
  refine awp_plain hN rfl ?_
  refine qd rfl ?_
  refine seq_run0 (stp_sneq rfl rfl) ?_
  refine qd rfl ?_
  refine seq_aT rfl rfl (fun hc => stp_move (.dat _) rfl) ?_
  refine seq_aT rfl rfl (fun hc => stp_len_str tyU9 (cnd (c := (decide (s1 ≠ []))) hc)) ?_
  refine seq_aT rfl rfl (fun hc => stp_leq (cnd (c := (decide (s1 ≠ []))) hc) rfl) ?_
  refine seq_run0 (stp_pick_and rfl (fun hb => (cnd (c := (decide (s1 ≠ []))) hb)) rfl) ?_
  refine qe rfl ?_
  refine awp_ret ?_
  cases H
  exact ⟨trivial, .inl rfl, trivial⟩
 ·rintro i2 x5 ⟨⟩ q3 h6 h7 H hq3
  replace H : kit_IsKey_L1 i2 x5 = some q3 := H
  unfold kit_IsKey_L1 at H
  refine awp_seq ?_
  refine awp_seq ?_
  refine awp_plain hN rfl ?_
  refine qd rfl ?_
  refine qd rfl ?_
  refine seq_run0 (stp_len_str tyU9 rfl) ?_
  refine seq_run0 (stp_lss rfl rfl) ?_
  refine awp_cond _ rfl (fun h => ?_) (fun h => (lt_f h6 h).elim)
  refine awp_skip ?_
  refine awp_seq ?_
  refine awp_block ?_
  refine awp_seq ?_
  refine awp_plain hN rfl ?_
  refine qd rfl ?_
  refine qd rfl ?_
  refine seq_run0 (t_byte tyU9 rfl rfl h7) ?_
  refine qe rfl ?_
  refine awp_seq ?_
  refine awp_plain hN rfl ?_
  refine qd rfl ?_
  refine seq_run0 (stp_geq rfl rfl) ?_
  refine qd rfl ?_
  refine seq_aT rfl rfl (fun hc => stp_move (.dat _) rfl) ?_
  refine seq_aT rfl rfl (fun hc => stp_leq (cnd (c := (decide (97 ≤ (x5.toNat : Int)))) hc) rfl) ?_
  refine seq_run0 (stp_pick_and rfl (fun hb => (cnd (c := (decide (97 ≤ (x5.toNat : Int)))) hb)) rfl) ?_
  refine qd rfl ?_
  refine seq_aF rfl rfl (fun hc => stp_move (.dat _) rfl) ?_
  refine seq_aF rfl rfl (fun hc => stp_gtr (cnd (c := (!((decide (97 ≤ (x5.toNat : Int))) && (decide ((x5.toNat : Int) ≤ 122))))) hc) rfl) ?_
  refine seq_aF rfl rfl (fun hc => stp_move (.dat _) (cnd (c := (!((decide (97 ≤ (x5.toNat : Int))) && (decide ((x5.toNat : Int) ≤ 122))))) hc)) ?_
  refine seq_bT rfl rfl (fun hc => stp_move (.dat _) rfl) ?_
  refine seq_bT rfl rfl (fun hc => stp_geq (cnd (c := ((!((decide (97 ≤ (x5.toNat : Int))) && (decide ((x5.toNat : Int) ≤ 122)))) && (decide (0 < (i2 : Int))))) hc) rfl) ?_
  refine seq_bT rfl rfl (fun hc => stp_move (.dat _) (cnd (c := ((!((decide (97 ≤ (x5.toNat : Int))) && (decide ((x5.toNat : Int) ≤ 122)))) && (decide (0 < (i2 : Int))))) hc)) ?_
  refine seq_bT rfl rfl (fun hc => stp_move (.dat _) rfl) ?_
  refine seq_bT rfl rfl (fun hc => stp_leq (cnd (c := (((!((decide (97 ≤ (x5.toNat : Int))) && (decide ((x5.toNat : Int) ≤ 122)))) && (decide (0 < (i2 : Int)))) && (decide (48 ≤ (x5.toNat : Int))))) hc) rfl) ?_
  refine seq_bT rfl rfl (fun hc => stp_pick_and (cnd (c := ((!((decide (97 ≤ (x5.toNat : Int))) && (decide ((x5.toNat : Int) ≤ 122)))) && (decide (0 < (i2 : Int))))) hc) (fun hb => (cnd (c := (((!((decide (97 ≤ (x5.toNat : Int))) && (decide ((x5.toNat : Int) ≤ 122)))) && (decide (0 < (i2 : Int)))) && (decide (48 ≤ (x5.toNat : Int))))) (andI hc hb))) rfl) ?_
  refine seq_bT rfl rfl (fun hc => stp_move (.dat _) (cnd (c := ((!((decide (97 ≤ (x5.toNat : Int))) && (decide ((x5.toNat : Int) ≤ 122)))) && (decide (0 < (i2 : Int))))) hc)) ?_
  refine seq_bF rfl rfl (fun hc => stp_move (.dat _) rfl) ?_
  refine seq_bF rfl rfl (fun hc => stp_eql (cnd (c := (((!((decide (97 ≤ (x5.toNat : Int))) && (decide ((x5.toNat : Int) ≤ 122)))) && (decide (0 < (i2 : Int)))) && !((decide (48 ≤ (x5.toNat : Int))) && (decide ((x5.toNat : Int) ≤ 57))))) hc) rfl) ?_
  refine seq_bT rfl rfl (fun hc => stp_pick_or (cnd (c := ((!((decide (97 ≤ (x5.toNat : Int))) && (decide ((x5.toNat : Int) ≤ 122)))) && (decide (0 < (i2 : Int))))) hc) rfl (fun hb => (cnd (c := (((!((decide (97 ≤ (x5.toNat : Int))) && (decide ((x5.toNat : Int) ≤ 122)))) && (decide (0 < (i2 : Int)))) && !((decide (48 ≤ (x5.toNat : Int))) && (decide ((x5.toNat : Int) ≤ 57))))) (andI hc (notI hb))))) ?_
  refine seq_bT rfl rfl (fun hc => stp_move (.dat _) (cnd (c := ((!((decide (97 ≤ (x5.toNat : Int))) && (decide ((x5.toNat : Int) ≤ 122)))) && (decide (0 < (i2 : Int))))) hc)) ?_
  refine seq_bF rfl rfl (fun hc => stp_move (.dat _) rfl) ?_
  refine seq_bF rfl rfl (fun hc => stp_eql (cnd (c := (((!((decide (97 ≤ (x5.toNat : Int))) && (decide ((x5.toNat : Int) ≤ 122)))) && (decide (0 < (i2 : Int)))) && !(((decide (48 ≤ (x5.toNat : Int))) && (decide ((x5.toNat : Int) ≤ 57))) || (decide ((x5.toNat : Int) = 45))))) hc) rfl) ?_
  refine seq_bT rfl rfl (fun hc => stp_pick_or (cnd (c := ((!((decide (97 ≤ (x5.toNat : Int))) && (decide ((x5.toNat : Int) ≤ 122)))) && (decide (0 < (i2 : Int))))) hc) rfl (fun hb => (cnd (c := (((!((decide (97 ≤ (x5.toNat : Int))) && (decide ((x5.toNat : Int) ≤ 122)))) && (decide (0 < (i2 : Int)))) && !(((decide (48 ≤ (x5.toNat : Int))) && (decide ((x5.toNat : Int) ≤ 57))) || (decide ((x5.toNat : Int) = 45))))) (andI hc (notI hb))))) ?_
  refine seq_aF rfl rfl (fun hc => stp_pick_and (cnd (c := (!((decide (97 ≤ (x5.toNat : Int))) && (decide ((x5.toNat : Int) ≤ 122))))) hc) (fun hb => (cnd (c := ((!((decide (97 ≤ (x5.toNat : Int))) && (decide ((x5.toNat : Int) ≤ 122)))) && (decide (0 < (i2 : Int))))) (andI hc hb))) rfl) ?_
  refine seq_run0 (stp_pick_or rfl rfl (fun hb => (cnd (c := (!((decide (97 ≤ (x5.toNat : Int))) && (decide ((x5.toNat : Int) ≤ 122))))) (notI hb)))) ?_
  refine seq_run0 (stp_not rfl) ?_
  refine awp_cond _ rfl (fun h8 => ?_) (fun h8 => ?_)
  ·replace H := ift h8 H
   refine awp_seq ?_
   refine awp_plain hN rfl ?_
   refine qe rfl ?_
   refine awp_ret ?_
   replace H := retl H hq3
   cases H
   exact ⟨trivial, .inl rfl, trivial⟩
  ·replace H := iff_ h8 H
   refine awp_skip ?_
   refine awp_plain hN rfl ?_
   refine qd rfl ?_
   refine seq_run0 (stp_add rfl rfl (by omega)) ?_
   refine qe rfl ?_
   exact ⟨_, backl H, ⟨rfl, rfl, trivial⟩, trivial⟩
theorem k_kit_Outside (n1 : Int) (low2 : Int) (high3 : Int) (r : (Bool)) (H : m_kit_Outside n1 low2 high3 = some r) : Fn Try.prog 29 [vint n1, vint low2, vint high3] (resOf [vbool r]) := by
 refine ⟨by kernel_rfl, pure_of (us := [vbool r]) Try.func29 rfl rfl rfl rfl fun X hN => ?_⟩
 unfold m_kit_Outside at H
 refine awp_seq ?_
 refine awp_plain hN rfl ?_
 refine qe rfl ?_
 refine awp_seq ?_
 refine awp_plain hN rfl ?_
 refine qd rfl ?_
 refine qd rfl ?_
 refine seq_run0 (stp_lss rfl rfl) ?_
 refine qd rfl ?_
 refine seq_aF rfl rfl (fun hc => stp_move (.dat _) rfl) ?_
 refine seq_aF rfl rfl (fun hc => stp_move (.dat _) rfl) ?_
 refine seq_aF rfl rfl (fun hc => stp_gtr (cnd (c := (!(decide (n1 < low2)))) hc) (cnd (c := (!(decide (n1 < low2)))) hc)) ?_
 refine seq_run0 (stp_pick_or rfl rfl (fun hb => (cnd (c := (!(decide (n1 < low2)))) (notI hb)))) ?_
 refine qe rfl ?_
 refine awp_ret ?_
 cases H
 exact ⟨trivial, .inl rfl, trivial⟩
theorem k_upstream_CheckInstances (l1 : (List S_api_Instance)) (r : (Int)) (H : m_upstream_CheckInstances l1 = some r) : Fn Try.prog 19 [vlst (List.map C_api_Instance l1)] (resOf [vint r]) := by
 refine ⟨by kernel_rfl, pure_of (us := [vint r]) Try.func19 rfl rfl rfl rfl fun X hN => ?_⟩
 unfold m_upstream_CheckInstances at H
 refine awp_seq ?_
 refine awp_plain hN rfl ?_
 refine qe rfl ?_
 refine awp_seq ?_
 refine awp_seq ?_
 refine awp_plain hN rfl ?_
 refine qd rfl ?_
 refine seq_run0 (t_len tyU26 rfl) ?_
 refine seq_run0 (stp_gtr rfl rfl) ?_
 refine awp_cond _ rfl (fun h2 => ?_) (fun h2 => ?_)
 ·replace H := ift h2 H
  refine awp_seq ?_
  refine awp_plain hN rfl ?_
  refine qe rfl ?_
  refine awp_ret ?_
  cases H
  exact ⟨trivial, .inl rfl, trivial⟩
 ·replace H := iff_ h2 H
  refine awp_skip ?_
  refine awp_seq ?_
  refine awp_seq ?_
  refine awp_plain hN rfl ?_
  refine qd rfl ?_
  refine seq_run0 (t_len tyU26 rfl) ?_
  refine qd rfl ?_
  refine awp_block ?_
  obtain ⟨h5, H⟩ := gif H
  refine awp_forL (fun (k3 : Nat) (s : Unit) => [(0, .dat (vlst (List.map C_api_Instance l1))), (8, .dat (vlst (List.map C_api_Instance l1))), (9, .dat (vint (l1.length : Int))), (10, .dat (vint (k3 : Int)))]) (fun (k3 : Nat) (s : Unit) => []) () H ⟨rfl, rfl, rfl, rfl, trivial⟩ trivial (fun _ _ => rfl) ?_ ?_
  ·rintro ⟨⟩ H
   replace H : upstream_CheckInstances_E1 = some r := H
   unfold upstream_CheckInstances_E1 at H
   refine awp_seq ?_
   refine awp_plain hN rfl ?_
   refine seq_run0 (stp_lss rfl rfl) ?_
   refine awp_seq ?_
   refine awp_cond _ rfl (fun h => (lt_t h).elim) (fun h => ?_)
   refine awp_exit ?_
   refine awp_seq ?_
   refine awp_plain hN rfl ?_
   refine qe rfl ?_
   refine awp_ret ?_
   cases H
   exact ⟨trivial, .inl rfl, trivial⟩
  ·rintro k3 x6 ⟨⟩ q4 h7 h8 H hq4
   replace H : upstream_CheckInstances_L1 l1 k3 x6 = some q4 := H
   unfold upstream_CheckInstances_L1 at H
   refine awp_seq ?_
   refine awp_plain hN rfl ?_
   refine seq_run0 (stp_lss rfl rfl) ?_
   refine awp_seq ?_
   refine awp_cond _ rfl (fun h => ?_) (fun h => (lt_f h7 h).elim)
   refine awp_skip ?_
   refine awp_seq ?_
   refine awp_block ?_
   refine awp_seq ?_
   refine awp_plain hN rfl ?_
   refine qd rfl ?_
   refine seq_run0 (t_idx tyE26 (fun _ => rfl) rfl rfl h8) ?_
   refine seq_run0 (stp_loadEA tyS45 rfl (map_at h8) rfl) ?_
   refine seq_run2 (stp_alloc 1 tyZ45 rfl) rfl ?_
   refine qe rfl ?_
   refine seq_run2 (stp_storeW tyS45 rfl rfl rfl rfl) rfl ?_
   refine awp_block ?_
   refine awp_seq ?_
   refine awp_plain hN rfl ?_
   refine seq_run0 (stp_fldP tyF45_0 rfl) ?_
   refine seq_run1 (stp_load1 tyS9 rfl rfl) rfl ?_
   obtain ⟨r9, h10, H⟩ := bnd H
   refine seq_run0 (stp_call (k_kit_IsKey x6.Key r9 h10) ⟨.inl rfl, trivial⟩) ?_
   refine seq_run0 (stp_not rfl) ?_
   refine qe rfl ?_
   refine awp_cond _ rfl (fun h11 => ?_) (fun h11 => ?_)
   ·replace H := ift h11 H
    refine awp_seq ?_
    refine awp_plain hN rfl ?_
    refine qe rfl ?_
    refine awp_ret ?_
    replace H := retl H hq4
    cases H
    exact ⟨trivial, .inl rfl, trivial⟩
   ·replace H := iff_ h11 H
    refine awp_joinE (ι := Bool) (fun i => [(0, .dat (vlst (List.map C_api_Instance l1))), (4, .ptr 1 0), (8, .dat (vlst (List.map C_api_Instance l1))), (9, .dat (vint (l1.length : Int))), (10, .dat (vint (k3 : Int))), (20, .dat (vbool i))]) (fun i => [(1, .box none 45 [.dat (vstr x6.Key), .dat (vint x6.Weight)])]) (fun i => upstream_CheckInstances_J2 x6 i = some q4) (fun i => rfl) ?_ ?_
    ·skip
     refine awp_draw mixed hN rfl rfl ?_
     refine qd rfl ?_
     refine seq_run0 (stp_gtr rfl rfl) ?_
     refine qd rfl ?_
     refine seq_split (j := 2) rfl rfl (fun h12 => ?_) (fun h12 => ?_) rfl
     ·have h13 := un1 h12
      replace H := ift h13 H
      refine seq_g0 rfl rfl h12 (stp_fldP tyF45_0 rfl) ?_
      refine seq_g1 rfl rfl h12 (stp_load1 tyS9 rfl rfl) rfl ?_
      refine seq_g0 rfl rfl h12 (stp_move (.dat _) rfl) ?_
      refine seq_g0 rfl rfl h12 (stp_move (.dat _) rfl) ?_
      refine seq_g0 rfl rfl h12 (stp_sub rfl rfl (by omega)) ?_
      obtain ⟨x14, h15, H⟩ := bnd H
      refine seq_g0 rfl rfl h12 (t_idxI tyE26 (fun _ => rfl) rfl rfl h15) ?_
      refine seq_g0 rfl rfl h12 (stp_fldE tyF45_0 rfl) ?_
      refine seq_g0 rfl rfl h12 (stp_loadE1 tyS9 rfl (map_at (at_some h15).2) rfl) ?_
      refine seq_g0 rfl rfl h12 (stp_sleq rfl rfl) ?_
      refine seq_run0 (stp_pick_t rfl (bTT h13) rfl) ?_
      refine qe rfl ?_
      refine ⟨rfl, ?_⟩
      exact ⟨(Op.bytesLess x6.Key x14.Key || x6.Key == x14.Key), H, ⟨rfl, rfl, rfl, rfl, rfl, rfl, trivial⟩, ⟨rfl, trivial⟩⟩
     ·have h16 := un2 h12
      replace H := iff_ h16 H
      refine seq_skip rfl rfl h12 ?_
      refine seq_skip rfl rfl h12 ?_
      refine seq_skip rfl rfl h12 ?_
      refine seq_skip rfl rfl h12 ?_
      refine seq_skip rfl rfl h12 ?_
      refine seq_skip rfl rfl h12 ?_
      refine seq_skip rfl rfl h12 ?_
      refine seq_skip rfl rfl h12 ?_
      refine seq_skip rfl rfl h12 ?_
      refine seq_run0 (stp_pick_f rfl (bFF h16) rfl) ?_
      refine qe rfl ?_
      refine ⟨rfl, ?_⟩
      exact ⟨false, H, ⟨rfl, rfl, rfl, rfl, rfl, rfl, trivial⟩, ⟨rfl, trivial⟩⟩
    ·rintro v17 H
     replace H : upstream_CheckInstances_J2 x6 v17 = some q4 := H
     unfold upstream_CheckInstances_J2 at H
     refine awp_cond _ rfl (fun h18 => ?_) (fun h18 => ?_)
     ·replace H := ift h18 H
      refine awp_seq ?_
      refine awp_plain hN rfl ?_
      refine qe rfl ?_
      refine awp_ret ?_
      replace H := retl H hq4
      cases H
      exact ⟨trivial, .inl rfl, trivial⟩
     ·replace H := iff_ h18 H
      refine awp_seq ?_
      refine awp_plain hN rfl ?_
      refine seq_run0 (stp_fldP tyF45_1 rfl) ?_
      refine seq_run1 (stp_load1 tyS3 rfl rfl) rfl ?_
      obtain ⟨r19, h20, H⟩ := bnd H
      refine seq_run0 (stp_call (k_kit_Outside x6.Weight 1 100 r19 h20) ⟨.inl rfl, .inl rfl, .inl rfl, trivial⟩) ?_
      refine qe rfl ?_
      refine awp_cond _ rfl (fun h21 => ?_) (fun h21 => ?_)
      ·replace H := ift h21 H
       refine awp_seq ?_
       refine awp_plain hN rfl ?_
       refine qe rfl ?_
       refine awp_ret ?_
       replace H := retl H hq4
       cases H
       exact ⟨trivial, .inl rfl, trivial⟩
      ·replace H := iff_ h21 H
       refine awp_skip ?_
       refine awp_plain hN rfl ?_
       refine seq_run0 (stp_add rfl rfl (by omega)) ?_
       refine qd rfl ?_
       exact ⟨_, backl H, ⟨rfl, rfl, rfl, rfl, trivial⟩, trivial⟩
theorem k_upstream_Moved (v1 : (List S_api_Instance)) (v2 : (List S_api_Instance)) (v3 : (List Bs)) (r : ((List Bs) × Int)) (H : m_upstream_Moved v1 v2 v3 = some r) : Fn Try.prog 8 [vlst (List.map C_api_Instance v1), vlst (List.map C_api_Instance v2), vlst (List.map C_string v3)] (resOf [vlst (List.map C_string r.1), vint r.2]) := by
 refine ⟨by kernel_rfl, pure_of (us := [vlst (List.map C_string r.1), vint r.2]) Try.func8 rfl rfl rfl rfl fun X hN => ?_⟩
 unfold m_upstream_Moved at H
 refine awp_seq ?_
 refine awp_plain hN rfl ?_
 refine qe rfl ?_
 refine qe rfl ?_
 refine awp_seq ?_
 refine awp_seq ?_
 refine awp_plain hN rfl ?_
 refine qd rfl ?_
 refine qd rfl ?_
 refine seq_run0 (stp_dat (u' := vagg [vlst (List.map C_api_Instance v1), vlst (List.map C_api_Instance v2)]) (stp_buildS [(0, [vlst (List.map C_api_Instance v1)]), (1, [vlst (List.map C_api_Instance v2)])] tyZ47 (show Try.prog.underlying 47 = some (.array 2 26) from by kernel_rfl) (show tyS Try.prog 26 = some (false, 1) from by kernel_rfl) rfl ⟨rfl, .inl ⟨_, rfl, rfl, rfl⟩, rfl, rfl, .inl ⟨_, rfl, rfl, rfl⟩, rfl, trivial⟩) rfl) ?_
 refine qd rfl ?_
 refine awp_block ?_
 obtain ⟨h6, H⟩ := gif H
 refine awp_rng (fun (k4 : Nat) (s : Unit) => [(0, .dat (vlst (List.map C_api_Instance v1))), (1, .dat (vlst (List.map C_api_Instance v2))), (2, .dat (vlst (List.map C_string v3))), (19, .dat (vagg [vlst (List.map C_api_Instance v1), vlst (List.map C_api_Instance v2)])), (20, .dat (vint (k4 : Int)))]) (fun (k4 : Nat) (s : Unit) => []) () H ⟨rfl, rfl, rfl, rfl, rfl, trivial⟩ trivial (fun _ _ => rfl) ?_ ?_
 ·rintro ⟨⟩ H
  replace H : upstream_Moved_E1 v1 v2 v3 = some r := H
  unfold upstream_Moved_E1 at H
  refine awp_seq ?_
  refine awp_plain hN rfl ?_
  refine seq_run0 (stp_lss rfl rfl) ?_
  refine awp_seq ?_
  refine awp_cond _ rfl (fun h => (lt_t h).elim) (fun h => ?_)
  refine awp_exit ?_
  refine awp_seq ?_
  refine awp_seq ?_
  refine awp_plain hN rfl ?_
  refine qd rfl ?_
  refine seq_run0 (t_len tyU28 rfl) ?_
  refine seq_run0 (stp_gtr rfl rfl) ?_
  refine awp_cond _ rfl (fun h7 => ?_) (fun h7 => ?_)
  ·replace H := ift h7 H
   refine awp_seq ?_
   refine awp_plain hN rfl ?_
   refine qe rfl ?_
   refine qe rfl ?_
   refine awp_ret ?_
   cases H
   exact ⟨trivial, .inr ⟨rfl, rfl⟩, .inl rfl, trivial⟩
  ·replace H := iff_ h7 H
   refine awp_skip ?_
   refine awp_seq ?_
   refine awp_seq ?_
   refine awp_plain hN rfl ?_
   refine qd rfl ?_
   refine seq_run0 (t_len tyU28 rfl) ?_
   refine qd rfl ?_
   refine awp_block ?_
   obtain ⟨h10, H⟩ := gif H
   refine awp_forL (fun (k8 : Nat) (s : Unit) => [(0, .dat (vlst (List.map C_api_Instance v1))), (1, .dat (vlst (List.map C_api_Instance v2))), (2, .dat (vlst (List.map C_string v3))), (32, .dat (vlst (List.map C_string v3))), (33, .dat (vint (v3.length : Int))), (34, .dat (vint (k8 : Int)))]) (fun (k8 : Nat) (s : Unit) => []) () H ⟨rfl, rfl, rfl, rfl, rfl, rfl, trivial⟩ trivial (fun _ _ => rfl) ?_ ?_
   ·rintro ⟨⟩ H
    replace H : upstream_Moved_E2 v1 v2 v3 = some r := H
    unfold upstream_Moved_E2 at H
    refine awp_seq ?_
    refine awp_plain hN rfl ?_
    refine seq_run0 (stp_lss rfl rfl) ?_
    refine awp_seq ?_
    refine awp_cond _ rfl (fun h => (lt_t h).elim) (fun h => ?_)
    refine awp_exit ?_
    refine awp_seq ?_
    refine awp_seq ?_
    refine awp_plain hN rfl ?_
    refine qd rfl ?_
    refine seq_run0 (t_len tyU26 rfl) ?_
    refine seq_run0 (stp_eql rfl rfl) ?_
    refine qd rfl ?_
    refine seq_aF rfl rfl (fun hc => stp_move (.dat _) rfl) ?_
    refine seq_aF rfl rfl (fun hc => t_len tyU26 (cnd (c := (!(decide ((v1.length : Int) = 0)))) hc)) ?_
    refine seq_aF rfl rfl (fun hc => stp_eql (cnd (c := (!(decide ((v1.length : Int) = 0)))) hc) rfl) ?_
    refine seq_run0 (stp_pick_or rfl rfl (fun hb => (cnd (c := (!(decide ((v1.length : Int) = 0)))) (notI hb)))) ?_
    refine awp_cond _ rfl (fun h12 => ?_) (fun h12 => ?_)
    ·replace H := ift h12 H
     refine awp_seq ?_
     refine awp_plain hN rfl ?_
     refine qe rfl ?_
     refine qe rfl ?_
     refine awp_ret ?_
     cases H
     exact ⟨trivial, .inr ⟨rfl, rfl⟩, .inl rfl, trivial⟩
    ·replace H := iff_ h12 H
     refine awp_skip ?_
     refine awp_seq ?_
     refine awp_plain hN rfl ?_
     refine qe rfl ?_
     refine awp_seq ?_
     refine awp_seq ?_
     refine awp_plain hN rfl ?_
     refine qd rfl ?_
     refine seq_run0 (t_len tyU28 rfl) ?_
     refine qd rfl ?_
     refine awp_block ?_
     refine awp_nilrow 14 1 9 1 rfl rfl rfl ?_
     obtain ⟨h16, H⟩ := gif H
     refine awp_forL (fun (k14 : Nat) (s : (List Bs)) => [(0, .dat (vlst (List.map C_api_Instance v1))), (1, .dat (vlst (List.map C_api_Instance v2))), (14, .row 1 s.length), (52, .dat (vlst (List.map C_string v3))), (53, .dat (vint (v3.length : Int))), (54, .dat (vint (k14 : Int)))]) (fun (k14 : Nat) (s : (List Bs)) => [(1, .row 9 1 (List.map C_string s))]) [] H ⟨rfl, rfl, rfl, rfl, rfl, rfl, trivial⟩ ⟨rfl, trivial⟩ (fun _ _ => rfl) ?_ ?_
     ·rintro l13 H
      replace H : upstream_Moved_E3 l13 = some r := H
      unfold upstream_Moved_E3 at H
      refine awp_seq ?_
      refine awp_plain hN rfl ?_
      refine seq_run0 (stp_lss rfl rfl) ?_
      refine awp_seq ?_
      refine awp_cond _ rfl (fun h => (lt_t h).elim) (fun h => ?_)
      refine awp_exit ?_
      refine awp_seq ?_
      refine awp_plain hN rfl ?_
      refine seq_run0 (stp_move (.row _ _) rfl) ?_
      refine seq_run0 (stp_assign (.row _ _) rfl) ?_
      refine qe rfl ?_
      refine awp_ret ?_
      cases H
      exact ⟨trivial, t_slotv rfl rfl, .inl rfl, trivial⟩
     ·rintro k14 x17 l13 q15 h18 h19 H hq15
      replace H : upstream_Moved_L3 v1 v2 k14 x17 l13 = some q15 := H
      unfold upstream_Moved_L3 at H
      refine awp_seq ?_
      refine awp_plain hN rfl ?_
      refine seq_run0 (stp_lss rfl rfl) ?_
      refine awp_seq ?_
      refine awp_cond _ rfl (fun h => ?_) (fun h => (lt_f h18 h).elim)
      refine awp_skip ?_
      refine awp_joinE (ι := (List Bs)) (fun i => [(0, .dat (vlst (List.map C_api_Instance v1))), (1, .dat (vlst (List.map C_api_Instance v2))), (14, .row 1 i.length), (52, .dat (vlst (List.map C_string v3))), (53, .dat (vint (v3.length : Int))), (54, .dat (vint (k14 : Int)))]) (fun i => [(1, .row 9 1 (List.map C_string i))]) (fun i => upstream_Moved_J4 i = some q15) (fun i => rfl) ?_ ?_
      ·skip
       refine awp_block ?_
       refine awp_seq ?_
       refine awp_plain hN rfl ?_
       refine seq_run0 (t_idx tyE28 (fun _ => rfl) rfl rfl h19) ?_
       refine seq_run0 (stp_loadE1 tyS9 rfl (map_at h19) rfl) ?_
       refine qe rfl ?_
       refine awp_seq ?_
       refine awp_draw mixed hN rfl rfl ?_
       refine qd rfl ?_
       refine qd rfl ?_
       obtain ⟨r20, h21, H⟩ := bnd H
       refine seq_run0 (stp_call (k_upstream_ordered v1 x17 r20 h21) ⟨.inl rfl, .inl rfl, trivial⟩) ?_
       obtain ⟨x22, h23, H⟩ := bnd H
       refine seq_run0 (t_idx tyE26 (fun _ => rfl) rfl rfl h23) ?_
       refine seq_run0 (stp_fldE tyF45_0 rfl) ?_
       refine seq_run0 (stp_loadE1 tyS9 rfl (map_at h23) rfl) ?_
       refine qd rfl ?_
       refine qd rfl ?_
       obtain ⟨r24, h25, H⟩ := bnd H
       refine seq_run0 (stp_call (k_upstream_ordered v2 x17 r24 h25) ⟨.inl rfl, .inl rfl, trivial⟩) ?_
       obtain ⟨x26, h27, H⟩ := bnd H
       refine seq_run0 (t_idx tyE26 (fun _ => rfl) rfl rfl h27) ?_
       refine seq_run0 (stp_fldE tyF45_0 rfl) ?_
       refine seq_run0 (stp_loadE1 tyS9 rfl (map_at h27) rfl) ?_
       refine seq_run0 (stp_sneq rfl rfl) ?_
       refine ⟨rfl, ?_⟩
       refine awp_cond _ rfl (fun h28 => ?_) (fun h28 => ?_)
       ·replace H := ift h28 H
        refine awp_plain hN rfl ?_
        refine seq_run0 (stp_move (.row _ _) rfl) ?_
        refine qd rfl ?_
        refine seq_run0 (stp_dat (u' := vlst (List.map C_string [x17])) (stp_lit [[_]] tyL28 ⟨rfl, .inl ⟨_, rfl, rfl, rfl⟩, rfl, trivial⟩ rfl rfl) rfl) ?_
        obtain ⟨h29, H⟩ := gif H
        refine seq_run2 (t_app tyL28 (fun _ => rfl) rfl rfl rfl ⟨by simp, by first | (simp; done) | simpa using h29⟩ rfl) rfl ?_
        refine seq_run0 (stp_assign (.row _ _) rfl) ?_
        exact ⟨(l13 ++ [x17]), H, ⟨rfl, rfl, rfl, rfl, rfl, rfl, trivial⟩, ⟨rfl, trivial⟩⟩
       ·replace H := iff_ h28 H
        refine awp_skip ?_
        exact ⟨l13, H, ⟨rfl, rfl, rfl, rfl, rfl, rfl, trivial⟩, ⟨rfl, trivial⟩⟩
      ·rintro v30 H
       replace H : upstream_Moved_J4 v30 = some q15 := H
       unfold upstream_Moved_J4 at H
       refine awp_plain hN rfl ?_
       refine seq_run0 (stp_add rfl rfl (by omega)) ?_
       refine qd rfl ?_
       exact ⟨_, backl H, ⟨rfl, rfl, rfl, rfl, rfl, rfl, trivial⟩, ⟨rfl, trivial⟩⟩
   ·rintro k8 x11 ⟨⟩ q9 h31 h32 H hq9
    replace H : upstream_Moved_L2 k8 x11 = some q9 := H
    unfold upstream_Moved_L2 at H
    refine awp_seq ?_
    refine awp_plain hN rfl ?_
    refine seq_run0 (stp_lss rfl rfl) ?_
    refine awp_seq ?_
    refine awp_cond _ rfl (fun h => ?_) (fun h => (lt_f h31 h).elim)
    refine awp_skip ?_
    refine awp_seq ?_
    refine awp_block ?_
    refine awp_seq ?_
    refine awp_plain hN rfl ?_
    refine seq_run0 (t_idx tyE28 (fun _ => rfl) rfl rfl h32) ?_
    refine seq_run0 (stp_loadE1 tyS9 rfl (map_at h32) rfl) ?_
    refine qe rfl ?_
    refine awp_seq ?_
    refine awp_plain hN rfl ?_
    refine qd rfl ?_
    obtain ⟨r33, h34, H⟩ := bnd H
    refine seq_run0 (stp_call (k_upstream_keyFault x11 r33 h34) ⟨.inl rfl, trivial⟩) ?_
    refine qe rfl ?_
    refine awp_seq ?_
    refine awp_plain hN rfl ?_
    refine qd rfl ?_
    refine seq_run0 (stp_neq rfl rfl) ?_
    refine awp_cond _ rfl (fun h35 => ?_) (fun h35 => ?_)
    ·replace H := ift h35 H
     refine awp_seq ?_
     refine awp_plain hN rfl ?_
     refine qd rfl ?_
     refine qe rfl ?_
     refine qe rfl ?_
     refine awp_ret ?_
     replace H := retl H hq9
     cases H
     exact ⟨trivial, .inr ⟨rfl, rfl⟩, .inl rfl, trivial⟩
    ·replace H := iff_ h35 H
     refine awp_skip ?_
     refine awp_plain hN rfl ?_
     refine seq_run0 (stp_add rfl rfl (by omega)) ?_
     refine qd rfl ?_
     exact ⟨_, backl H, ⟨rfl, rfl, rfl, rfl, rfl, rfl, trivial⟩, trivial⟩
 ·rintro k4 ⟨⟩ q5 h36 H hq5
  replace H : upstream_Moved_L1 v1 v2 k4 = some q5 := H
  unfold upstream_Moved_L1 at H
  refine awp_seq ?_
  refine awp_plain hN rfl ?_
  refine seq_run0 (stp_lss rfl rfl) ?_
  refine awp_seq ?_
  refine awp_cond _ rfl (fun h => ?_) (fun h => (lt_f h36 h).elim)
  refine awp_skip ?_
  refine awp_seq ?_
  refine awp_block ?_
  refine awp_seq ?_
  refine awp_plain hN rfl ?_
  obtain ⟨x37, h38, H⟩ := bnd H
  refine seq_run0 (t_indexAN (D := fun e => vlst (List.map C_api_Instance e)) (xs := ([v1, v2] : List (List S_api_Instance))) (show Try.prog.underlying 47 = some (.array 2 26) from by kernel_rfl) (show tyS Try.prog 26 = some (false, 1) from by kernel_rfl) rfl rfl rfl h38) ?_
  refine qe rfl ?_
  refine awp_seq ?_
  refine awp_plain hN rfl ?_
  refine qd rfl ?_
  obtain ⟨r39, h40, H⟩ := bnd H
  refine seq_run0 (stp_call (k_upstream_CheckInstances x37 r39 h40) ⟨.inl rfl, trivial⟩) ?_
  refine qe rfl ?_
  refine awp_seq ?_
  refine awp_plain hN rfl ?_
  refine qd rfl ?_
  refine seq_run0 (stp_neq rfl rfl) ?_
  refine awp_cond _ rfl (fun h41 => ?_) (fun h41 => ?_)
  ·replace H := ift h41 H
   refine awp_seq ?_
   refine awp_plain hN rfl ?_
   refine qd rfl ?_
   refine qe rfl ?_
   refine qe rfl ?_
   refine awp_ret ?_
   replace H := retl H hq5
   cases H
   exact ⟨trivial, .inr ⟨rfl, rfl⟩, .inl rfl, trivial⟩
  ·replace H := iff_ h41 H
   refine awp_skip ?_
   refine awp_plain hN rfl ?_
   refine seq_run0 (stp_add rfl rfl (by omega)) ?_
   refine qd rfl ?_
   exact ⟨_, backl H, ⟨rfl, rfl, rfl, rfl, rfl, trivial⟩, trivial⟩
theorem k_gateref2_in (n1 : Int) (low2 : Int) (high3 : Int) (r : (Bool)) (H : m_gateref2_in n1 low2 high3 = some r) : Fn Try.prog 23 [vint n1, vint low2, vint high3] (resOf [vbool r]) := by
 refine ⟨by kernel_rfl, pure_of (us := [vbool r]) Try.func23 rfl rfl rfl rfl fun X hN => ?_⟩
 unfold m_gateref2_in at H
 refine awp_seq ?_
 refine awp_plain hN rfl ?_
 refine qe rfl ?_
 refine awp_seq ?_
 refine awp_plain hN rfl ?_
 refine qd rfl ?_
 refine qd rfl ?_
 refine seq_run0 (stp_leq rfl rfl) ?_
 refine qd rfl ?_
 refine seq_aT rfl rfl (fun hc => stp_move (.dat _) rfl) ?_
 refine seq_aT rfl rfl (fun hc => stp_move (.dat _) rfl) ?_
 refine seq_aT rfl rfl (fun hc => stp_leq (cnd (c := (decide (low2 ≤ n1))) hc) (cnd (c := (decide (low2 ≤ n1))) hc)) ?_
 refine seq_run0 (stp_pick_and rfl (fun hb => (cnd (c := (decide (low2 ≤ n1))) hb)) rfl) ?_
 refine qe rfl ?_
 refine awp_ret ?_
 cases H
 exact ⟨trivial, .inl rfl, trivial⟩
end Go.Proofs.Ytmlbmkfbleicaaa
