/- Walks along the models. Printed by a program. -/
import Derived.Test.YtaolapgdgdmapaaGreatDoorZbc
namespace Go.Proofs.YtaolapgdgdmapaaGreatDoor
open Go.RowKit
set_option linter.unusedVariables false
set_option maxRecDepth 20000
set_option maxHeartbeats 2000000
theorem k_gatemake_Below (x1 : Int) (n2 : Int) (r : (Int)) (H : m_gatemake_Below x1 n2 = some r) : Fn Tryz.prog 35 [vint x1, vint n2] (resOf [vint r]) := by
 refine ⟨by kernel_rfl, pure_of (us := [vint r]) Tryz.func35 rfl rfl rfl rfl fun X hN => ?_⟩
 unfold m_gatemake_Below at H
 refine awp_seq ?_
 refine awp_plain hN rfl ?_
 refine qe rfl ?_
 refine awp_seq ?_
 refine awp_seq ?_
 refine awp_plain hN rfl ?_
 refine qd rfl ?_
 refine seq_run0 (stp_lss rfl rfl) ?_
 refine awp_cond _ rfl (fun h3 => ?_) (fun h3 => ?_)
 ·replace H := ift h3 H
  refine awp_seq ?_
  refine awp_plain hN rfl ?_
  refine qe rfl ?_
  refine awp_ret ?_
  cases H
  exact ⟨trivial, .inl rfl, trivial⟩
 ·replace H := iff_ h3 H
  refine awp_skip ?_
  refine awp_seq ?_
  refine awp_plain hN rfl ?_
  refine qd rfl ?_
  refine qd rfl ?_
  obtain ⟨h4, H⟩ := gif H
  refine seq_run0 (stp_remT rfl rfl h4) ?_
  refine qe rfl ?_
  refine awp_joinE (ι := Int) (fun i => [(0, .dat (vint i))]) (fun i => []) (fun i => gatemake_Below_J1 i = some r) (fun i => rfl) ?_ ?_
  ·skip
   refine awp_seq ?_
   refine awp_plain hN rfl ?_
   refine qd rfl ?_
   refine seq_run0 (stp_lss rfl rfl) ?_
   refine awp_cond _ rfl (fun h5 => ?_) (fun h5 => ?_)
   ·replace H := ift h5 H
    refine awp_plain hN rfl ?_
    refine qd rfl ?_
    refine qd rfl ?_
    refine seq_run0 (stp_wrap _ rfl rfl (.inl ⟨rfl, rfl⟩)) ?_
    refine qe rfl ?_
    exact ⟨wr ((Int.tmod x1 n2) + n2), H, ⟨rfl, trivial⟩, trivial⟩
   ·replace H := iff_ h5 H
    refine awp_skip ?_
    exact ⟨(Int.tmod x1 n2), H, ⟨rfl, trivial⟩, trivial⟩
  ·rintro x6 H
   replace H : gatemake_Below_J1 x6 = some r := H
   unfold gatemake_Below_J1 at H
   refine awp_seq ?_
   refine awp_plain hN rfl ?_
   refine qd rfl ?_
   refine qe rfl ?_
   refine awp_ret ?_
   cases H
   exact ⟨trivial, .inl rfl, trivial⟩
theorem k_gatemake_Stream_Next (s1 : S_gatemake_Stream) (n2 : Int) (r : (Int × S_gatemake_Stream)) (H : m_gatemake_Stream_Next s1 n2 = some r) : Imp Tryz.prog 9 25 (C_gatemake_Stream s1) [vint n2] (resOf [vint r.1]) (C_gatemake_Stream r.2) := by
 refine imp_of (us := [vint r.1]) (cs' := (C_gatemake_Stream r.2)) (by kernel_rfl) Tryz.func9 rfl rfl rfl rfl fun X bl hN => ?_
 unfold m_gatemake_Stream_Next at H
 refine awp_seq ?_
 refine awp_plain hN rfl ?_
 refine qe rfl ?_
 refine awp_seq ?_
 refine awp_plain hN rfl ?_
 refine seq_run0 (stp_move (.ptr _ _) rfl) ?_
 refine seq_run0 (stp_nilP rfl) ?_
 refine seq_run0 (stp_fldP tyF25_1 rfl) ?_
 refine seq_run1 (stp_load1 tyS3 rfl rfl) rfl ?_
 refine seq_run0 (stp_wrap _ rfl rfl (.inl ⟨rfl, rfl⟩)) ?_
 refine seq_run0 (stp_nilP rfl) ?_
 refine seq_run0 (stp_fldP tyF25_1 rfl) ?_
 refine seq_run2 (stp_store1 tyS3 rfl rfl rfl rfl) rfl ?_
 refine awp_seq ?_
 refine awp_seq ?_
 refine awp_plain hN rfl ?_
 refine seq_run0 (stp_move (.ptr _ _) rfl) ?_
 refine seq_run0 (stp_nilP rfl) ?_
 refine seq_run0 (stp_fldP tyF25_0 rfl) ?_
 refine seq_run1 (stp_load1 tyS22 rfl rfl) rfl ?_
 refine seq_run0 (t_len tyU22 rfl) ?_
 refine seq_run0 (stp_eql rfl rfl) ?_
 refine awp_cond _ rfl (fun h3 => ?_) (fun h3 => ?_)
 ·replace H := ift h3 H
  refine awp_seq ?_
  refine awp_plain hN rfl ?_
  refine seq_run0 (stp_move (.ptr _ _) rfl) ?_
  refine seq_run0 (stp_nilP rfl) ?_
  refine seq_run0 (stp_fldP tyF25_1 rfl) ?_
  refine seq_run1 (stp_load1 tyS3 rfl rfl) rfl ?_
  refine seq_run0 (stp_wrap _ rfl rfl (.inr (.inr ⟨rfl, rfl⟩))) ?_
  refine qd rfl ?_
  obtain ⟨r4, h5, H⟩ := bnd H
  refine seq_run0 (stp_call (k_gatemake_Below (wr ((wr (s1.at_ + 1)) * 7919)) n2 r4 h5) ⟨.inl rfl, .inl rfl, trivial⟩) ?_
  refine qe rfl ?_
  refine awp_ret ?_
  cases H
  exact ⟨trivial, ⟨.inl rfl, trivial⟩, rfl⟩
 ·replace H := iff_ h3 H
  refine awp_skip ?_
  refine awp_seq ?_
  refine awp_draw mixed hN rfl rfl ?_
  refine seq_run0 (stp_move (.ptr _ _) rfl) ?_
  refine seq_run0 (stp_nilP rfl) ?_
  refine seq_run0 (stp_fldP tyF25_1 rfl) ?_
  refine seq_run1 (stp_load1 tyS3 rfl rfl) rfl ?_
  refine seq_run0 (stp_wrap _ rfl rfl (.inr (.inl ⟨rfl, rfl⟩))) ?_
  refine seq_run0 (stp_move (.ptr _ _) rfl) ?_
  refine seq_run0 (stp_nilP rfl) ?_
  refine seq_run0 (stp_fldP tyF25_0 rfl) ?_
  refine seq_run1 (stp_load1 tyS22 rfl rfl) rfl ?_
  refine seq_run0 (t_len tyU22 rfl) ?_
  obtain ⟨h6, H⟩ := gif H
  refine seq_run0 (stp_remT rfl rfl h6) ?_
  refine qe rfl ?_
  refine ⟨rfl, ?_⟩
  refine awp_seq ?_
  refine awp_draw mixed hN rfl rfl ?_
  refine seq_run0 (stp_move (.ptr _ _) rfl) ?_
  refine seq_run0 (stp_nilP rfl) ?_
  refine seq_run0 (stp_fldP tyF25_1 rfl) ?_
  refine seq_run1 (stp_load1 tyS3 rfl rfl) rfl ?_
  refine seq_run0 (stp_wrap _ rfl rfl (.inr (.inl ⟨rfl, rfl⟩))) ?_
  refine seq_run0 (stp_move (.ptr _ _) rfl) ?_
  refine seq_run0 (stp_nilP rfl) ?_
  refine seq_run0 (stp_fldP tyF25_0 rfl) ?_
  refine seq_run1 (stp_load1 tyS22 rfl rfl) rfl ?_
  refine seq_run0 (t_len tyU22 rfl) ?_
  obtain ⟨h7, H⟩ := gif H
  refine seq_run0 (stp_quo rfl rfl h7.1 h7.2) ?_
  refine qe rfl ?_
  refine ⟨rfl, ?_⟩
  refine awp_seq ?_
  refine awp_plain hN rfl ?_
  refine seq_run0 (stp_move (.ptr _ _) rfl) ?_
  refine seq_run0 (stp_nilP rfl) ?_
  refine seq_run0 (stp_fldP tyF25_0 rfl) ?_
  refine seq_run1 (stp_load1 tyS22 rfl rfl) rfl ?_
  refine qd rfl ?_
  obtain ⟨x8, h9, H⟩ := bnd H
  refine seq_run0 (t_idxI tyE22 (fun _ => rfl) rfl rfl h9) ?_
  refine seq_run0 (stp_loadE1 tyS3 rfl (map_at (at_some h9).2) rfl) ?_
  obtain ⟨r10, h11, H⟩ := bnd H
  refine seq_run0 (stp_call (k_gatemake_Below x8 1073741824 r10 h11) ⟨.inl rfl, .inl rfl, trivial⟩) ?_
  refine qd rfl ?_
  refine qd rfl ?_
  refine seq_run0 (stp_wrap _ rfl rfl (.inl ⟨rfl, rfl⟩)) ?_
  refine seq_run0 (stp_wrap _ rfl rfl (.inr (.inr ⟨rfl, rfl⟩))) ?_
  refine seq_run0 (stp_wrap _ rfl rfl (.inl ⟨rfl, rfl⟩)) ?_
  refine qd rfl ?_
  obtain ⟨r12, h13, H⟩ := bnd H
  refine seq_run0 (stp_call (k_gatemake_Below (wr (r10 + (wr (((wr ((wr (s1.at_ + 1)) - 1)) / (s1.L.length : Int)) * (wr (7919 + (Int.tmod (wr ((wr (s1.at_ + 1)) - 1)) (s1.L.length : Int)))))))) n2 r12 h13) ⟨.inl rfl, .inl rfl, trivial⟩) ?_
  refine qe rfl ?_
  refine awp_ret ?_
  cases H
  exact ⟨trivial, ⟨.inl rfl, trivial⟩, rfl⟩
theorem k_gatemake_Stream_Range (s1 : S_gatemake_Stream) (low2 : Int) (high3 : Int) (r : (Int × S_gatemake_Stream)) (H : m_gatemake_Stream_Range s1 low2 high3 = some r) : Imp Tryz.prog 5 25 (C_gatemake_Stream s1) [vint low2, vint high3] (resOf [vint r.1]) (C_gatemake_Stream r.2) := by
 refine imp_of (us := [vint r.1]) (cs' := (C_gatemake_Stream r.2)) (by kernel_rfl) Tryz.func5 rfl rfl rfl rfl fun X bl hN => ?_
 unfold m_gatemake_Stream_Range at H
 refine awp_seq ?_
 refine awp_plain hN rfl ?_
 refine qe rfl ?_
 refine awp_seq ?_
 refine awp_seq ?_
 refine awp_plain hN rfl ?_
 refine qd rfl ?_
 refine qd rfl ?_
 refine seq_run0 (stp_lss rfl rfl) ?_
 refine awp_cond _ rfl (fun h4 => ?_) (fun h4 => ?_)
 ·replace H := ift h4 H
  refine awp_seq ?_
  refine awp_plain hN rfl ?_
  refine qd rfl ?_
  refine qe rfl ?_
  refine awp_ret ?_
  cases H
  exact ⟨trivial, ⟨.inl rfl, trivial⟩, rfl⟩
 ·replace H := iff_ h4 H
  refine awp_skip ?_
  refine awp_seq ?_
  refine awp_plain hN rfl ?_
  refine qd rfl ?_
  refine seq_run0 (stp_move (.ptr _ _) rfl) ?_
  refine qd rfl ?_
  refine qd rfl ?_
  refine seq_run0 (stp_wrap _ rfl rfl (.inr (.inl ⟨rfl, rfl⟩))) ?_
  refine seq_run0 (stp_wrap _ rfl rfl (.inl ⟨rfl, rfl⟩)) ?_
  obtain ⟨r5, h6, H⟩ := bnd H
  refine seq_run2 (stp_imp (k_gatemake_Stream_Next s1 (wr ((wr (high3 - low2)) + 1)) r5 h6) rfl ⟨.inl rfl, trivial⟩ rfl) rfl ?_
  refine seq_run0 (stp_wrap _ rfl rfl (.inl ⟨rfl, rfl⟩)) ?_
  refine qe rfl ?_
  refine awp_ret ?_
  cases H
  exact ⟨trivial, ⟨.inl rfl, trivial⟩, rfl⟩
theorem k_gatemake_Stream_Flip (s1 : S_gatemake_Stream) (n2 : Int) (r : (Bool × S_gatemake_Stream)) (H : m_gatemake_Stream_Flip s1 n2 = some r) : Imp Tryz.prog 7 25 (C_gatemake_Stream s1) [vint n2] (resOf [vbool r.1]) (C_gatemake_Stream r.2) := by
 refine imp_of (us := [vbool r.1]) (cs' := (C_gatemake_Stream r.2)) (by kernel_rfl) Tryz.func7 rfl rfl rfl rfl fun X bl hN => ?_
 unfold m_gatemake_Stream_Flip at H
 refine awp_seq ?_
 refine awp_plain hN rfl ?_
 refine qe rfl ?_
 refine awp_seq ?_
 refine awp_plain hN rfl ?_
 refine seq_run0 (stp_move (.ptr _ _) rfl) ?_
 refine qd rfl ?_
 obtain ⟨r3, h4, H⟩ := bnd H
 refine seq_run2 (stp_imp (k_gatemake_Stream_Next s1 n2 r3 h4) rfl ⟨.inl rfl, trivial⟩ rfl) rfl ?_
 refine seq_run0 (stp_eql rfl rfl) ?_
 refine qe rfl ?_
 refine awp_ret ?_
 cases H
 exact ⟨trivial, ⟨.inl rfl, trivial⟩, rfl⟩
theorem k_gatemake_Stream_Some (s1 : S_gatemake_Stream) (l2 : (List Bs)) (r : (Bs × S_gatemake_Stream)) (H : m_gatemake_Stream_Some s1 l2 = some r) : Imp Tryz.prog 25 25 (C_gatemake_Stream s1) [vlst (List.map C_string l2)] (resOf [vstr r.1]) (C_gatemake_Stream r.2) := by
 refine imp_of (us := [vstr r.1]) (cs' := (C_gatemake_Stream r.2)) (by kernel_rfl) Tryz.func25 rfl rfl rfl rfl fun X bl hN => ?_
 unfold m_gatemake_Stream_Some at H
 refine awp_seq ?_
 refine awp_plain hN rfl ?_
 refine qe rfl ?_
 refine awp_seq ?_
 refine awp_plain hN rfl ?_
 refine qd rfl ?_
 refine seq_run0 (stp_move (.ptr _ _) rfl) ?_
 refine qd rfl ?_
 refine seq_run0 (t_len tyU61 rfl) ?_
 obtain ⟨r3, h4, H⟩ := bnd H
 refine seq_run2 (stp_imp (k_gatemake_Stream_Next s1 (l2.length : Int) r3 h4) rfl ⟨.inl rfl, trivial⟩ rfl) rfl ?_
 obtain ⟨x5, h6, H⟩ := bnd H
 refine seq_run0 (t_idxI tyE61 (fun _ => rfl) rfl rfl h6) ?_
 refine seq_run0 (stp_loadE1 tyS9 rfl (map_at (at_some h6).2) rfl) ?_
 refine qe rfl ?_
 refine awp_ret ?_
 cases H
 exact ⟨trivial, ⟨.inl rfl, trivial⟩, rfl⟩
theorem k_gatemake_Stream_Pick (s1 : S_gatemake_Stream) (l2 : (List Int)) (r : (Int × S_gatemake_Stream)) (H : m_gatemake_Stream_Pick s1 l2 = some r) : Imp Tryz.prog 24 25 (C_gatemake_Stream s1) [vlst (List.map C_int l2)] (resOf [vint r.1]) (C_gatemake_Stream r.2) := by
 refine imp_of (us := [vint r.1]) (cs' := (C_gatemake_Stream r.2)) (by kernel_rfl) Tryz.func24 rfl rfl rfl rfl fun X bl hN => ?_
 unfold m_gatemake_Stream_Pick at H
 refine awp_seq ?_
 refine awp_plain hN rfl ?_
 refine qe rfl ?_
 refine awp_seq ?_
 refine awp_plain hN rfl ?_
 refine qd rfl ?_
 refine seq_run0 (stp_move (.ptr _ _) rfl) ?_
 refine qd rfl ?_
 refine seq_run0 (t_len tyU22 rfl) ?_
 obtain ⟨r3, h4, H⟩ := bnd H
 refine seq_run2 (stp_imp (k_gatemake_Stream_Next s1 (l2.length : Int) r3 h4) rfl ⟨.inl rfl, trivial⟩ rfl) rfl ?_
 obtain ⟨x5, h6, H⟩ := bnd H
 refine seq_run0 (t_idxI tyE22 (fun _ => rfl) rfl rfl h6) ?_
 refine seq_run0 (stp_loadE1 tyS3 rfl (map_at (at_some h6).2) rfl) ?_
 refine qe rfl ?_
 refine awp_ret ?_
 cases H
 exact ⟨trivial, ⟨.inl rfl, trivial⟩, rfl⟩
theorem k_gatemake_Stream_Odd (s1 : S_gatemake_Stream) (low2 : Int) (high3 : Int) (r : (Int × S_gatemake_Stream)) (H : m_gatemake_Stream_Odd s1 low2 high3 = some r) : Imp Tryz.prog 30 25 (C_gatemake_Stream s1) [vint low2, vint high3] (resOf [vint r.1]) (C_gatemake_Stream r.2) := by
 refine imp_of (us := [vint r.1]) (cs' := (C_gatemake_Stream r.2)) (by kernel_rfl) Tryz.func30 rfl rfl rfl rfl fun X bl hN => ?_
 unfold m_gatemake_Stream_Odd at H
 refine awp_seq ?_
 refine awp_plain hN rfl ?_
 refine qe rfl ?_
 refine awp_seq ?_
 refine awp_seq ?_
 refine awp_plain hN rfl ?_
 refine seq_run0 (stp_move (.ptr _ _) rfl) ?_
 obtain ⟨r4, h5, H⟩ := bnd H
 refine seq_run2 (stp_imp (k_gatemake_Stream_Flip s1 12 r4 h5) rfl ⟨.inl rfl, trivial⟩ rfl) rfl ?_
 refine awp_cond _ rfl (fun h6 => ?_) (fun h6 => ?_)
 ·replace H := ift h6 H
  refine awp_seq ?_
  refine awp_plain hN rfl ?_
  refine seq_run0 (stp_move (.ptr _ _) rfl) ?_
  refine qd rfl ?_
  refine seq_run0 (stp_wrap _ rfl rfl (.inr (.inl ⟨rfl, rfl⟩))) ?_
  refine qd rfl ?_
  refine seq_run0 (stp_wrap _ rfl rfl (.inl ⟨rfl, rfl⟩)) ?_
  refine qd rfl ?_
  refine qd rfl ?_
  refine seq_run0 (stp_dat (u' := vlst (List.map C_int [wr (low2 - 1), wr (high3 + 1), low2, high3, (-1099511627776), 1099511627776])) (stp_lit [[_], [_], [_], [_], [_], [_]] tyL22 ⟨rfl, .inl ⟨_, rfl, rfl, rfl⟩, rfl, rfl, .inl ⟨_, rfl, rfl, rfl⟩, rfl, rfl, .inl ⟨_, rfl, rfl, rfl⟩, rfl, rfl, .inl ⟨_, rfl, rfl, rfl⟩, rfl, rfl, .inl ⟨_, rfl, rfl, rfl⟩, rfl, rfl, .inl ⟨_, rfl, rfl, rfl⟩, rfl, trivial⟩ rfl rfl) rfl) ?_
  obtain ⟨r7, h8, H⟩ := bnd H
  refine seq_run2 (stp_imp (k_gatemake_Stream_Pick r4.2 [wr (low2 - 1), wr (high3 + 1), low2, high3, (-1099511627776), 1099511627776] r7 h8) rfl ⟨.inl rfl, trivial⟩ rfl) rfl ?_
  refine qe rfl ?_
  refine awp_ret ?_
  cases H
  exact ⟨trivial, ⟨.inl rfl, trivial⟩, rfl⟩
 ·replace H := iff_ h6 H
  refine awp_skip ?_
  refine awp_seq ?_
  refine awp_plain hN rfl ?_
  refine seq_run0 (stp_move (.ptr _ _) rfl) ?_
  refine qd rfl ?_
  refine qd rfl ?_
  obtain ⟨r9, h10, H⟩ := bnd H
  refine seq_run2 (stp_imp (k_gatemake_Stream_Range r4.2 low2 high3 r9 h10) rfl ⟨.inl rfl, .inl rfl, trivial⟩ rfl) rfl ?_
  refine qe rfl ?_
  refine awp_ret ?_
  cases H
  exact ⟨trivial, ⟨.inl rfl, trivial⟩, rfl⟩
theorem k_gatemake_Stream_RightScopes (s1 : S_gatemake_Stream) (r : ((List Bs) × S_gatemake_Stream)) (H : m_gatemake_Stream_RightScopes s1 = some r) : Imp Tryz.prog 85 25 (C_gatemake_Stream s1) [] (resOf [vlst (List.map C_string r.1)]) (C_gatemake_Stream r.2) := by
 refine imp_of (us := [vlst (List.map C_string r.1)]) (cs' := (C_gatemake_Stream r.2)) (by kernel_rfl) Tryz.func85 rfl rfl rfl rfl fun X bl hN => ?_
 unfold m_gatemake_Stream_RightScopes at H
 refine awp_seq ?_
 refine awp_plain hN rfl ?_
 refine qe rfl ?_
 refine awp_seq ?_
 refine awp_plain hN rfl ?_
 refine qe rfl ?_
 refine awp_seq ?_
 refine awp_seq ?_
 refine awp_plain hN rfl ?_
 refine seq_run0 (stp_move (.ptr _ _) rfl) ?_
 obtain ⟨r2, h3, H⟩ := bnd H
 refine seq_run2 (stp_imp (k_gatemake_Stream_Range s1 0 4 r2 h3) rfl ⟨.inl rfl, .inl rfl, trivial⟩ rfl) rfl ?_
 refine qd rfl ?_
 refine awp_block ?_
 refine awp_nilrow 3 1 9 1 rfl rfl rfl ?_
 obtain ⟨h9, H⟩ := gif H
 refine awp_rng (fun (k7 : Nat) (s : (List Int) × Int × (List Bs)) => [(0, .ptr 0 0), (3, .row 1 s.2.2.length), (5, .dat (vint r2.1)), (6, .dat (vint (k7 : Int)))]) (fun (k7 : Nat) (s : (List Int) × Int × (List Bs)) => [(0, .box (some bl) 25 [.dat (vlst (List.map C_int s.1)), .dat (vint s.2.1)]), (1, .row 9 1 (List.map C_string s.2.2))]) (r2.2.L, r2.2.at_, []) H ⟨rfl, rfl, rfl, rfl, trivial⟩ ⟨rfl, rfl, trivial⟩ (fun _ _ => rfl) ?_ ?_
 ·rintro ⟨c4, c5, l6⟩ H
  replace H : gatemake_Stream_RightScopes_E1 c4 c5 l6 = some r := H
  unfold gatemake_Stream_RightScopes_E1 at H
  refine awp_seq ?_
  refine awp_plain hN rfl ?_
  refine seq_run0 (stp_lss rfl rfl) ?_
  refine awp_seq ?_
  refine awp_cond _ rfl (fun h => (lt_tI h).elim) (fun h => ?_)
  refine awp_exit ?_
  refine awp_seq ?_
  refine awp_plain hN rfl ?_
  refine seq_run0 (stp_move (.row _ _) rfl) ?_
  refine seq_run0 (stp_assign (.row _ _) rfl) ?_
  refine awp_ret ?_
  cases H
  exact ⟨trivial, ⟨t_slotv rfl rfl, trivial⟩, rfl⟩
 ·rintro k7 ⟨c4, c5, l6⟩ q8 h10 H hq8
  replace H : gatemake_Stream_RightScopes_L1 k7 c4 c5 l6 = some q8 := H
  unfold gatemake_Stream_RightScopes_L1 at H
  refine awp_seq ?_
  refine awp_plain hN rfl ?_
  refine seq_run0 (stp_lss rfl rfl) ?_
  refine awp_seq ?_
  refine awp_cond _ rfl (fun h => ?_) (fun h => (lt_fI h10 h).elim)
  refine awp_skip ?_
  refine awp_seq ?_
  refine awp_block ?_
  refine awp_plain hN rfl ?_
  refine seq_run0 (stp_move (.row _ _) rfl) ?_
  refine seq_run0 (stp_move (.ptr _ _) rfl) ?_
  refine seq_run0 (stp_dat (u' := vlst (List.map C_string [[97], [97, 58, 42], [97, 58, 98], [97, 58, 98, 58, 42], [97, 58, 98, 58, 99], [98], [98, 58, 42], [98, 58, 99], [42]])) (stp_lit [[_], [_], [_], [_], [_], [_], [_], [_], [_]] tyL61 ⟨rfl, .inl ⟨_, rfl, rfl, rfl⟩, rfl, rfl, .inl ⟨_, rfl, rfl, rfl⟩, rfl, rfl, .inl ⟨_, rfl, rfl, rfl⟩, rfl, rfl, .inl ⟨_, rfl, rfl, rfl⟩, rfl, rfl, .inl ⟨_, rfl, rfl, rfl⟩, rfl, rfl, .inl ⟨_, rfl, rfl, rfl⟩, rfl, rfl, .inl ⟨_, rfl, rfl, rfl⟩, rfl, rfl, .inl ⟨_, rfl, rfl, rfl⟩, rfl, rfl, .inl ⟨_, rfl, rfl, rfl⟩, rfl, trivial⟩ rfl rfl) rfl) ?_
  obtain ⟨r11, h12, H⟩ := bnd H
  refine seq_run2 (stp_imp (k_gatemake_Stream_Some (S_gatemake_Stream.mk c4 c5) ([[97], [97, 58, 42], [97, 58, 98], [97, 58, 98, 58, 42], [97, 58, 98, 58, 99], [98], [98, 58, 42], [98, 58, 99], [42]]) r11 h12) rfl ⟨.inl rfl, trivial⟩ rfl) rfl ?_
  refine seq_run0 (stp_dat (u' := vlst (List.map C_string [r11.1])) (stp_lit [[_]] tyL61 ⟨rfl, .inl ⟨_, rfl, rfl, rfl⟩, rfl, trivial⟩ rfl rfl) rfl) ?_
  obtain ⟨h13, H⟩ := gif H
  refine seq_run2 (t_app tyL61 (fun _ => rfl) rfl rfl rfl ⟨by simp, by first | (simp; done) | simpa using h13⟩ rfl) rfl ?_
  refine seq_run0 (stp_assign (.row _ _) rfl) ?_
  refine awp_plain hN rfl ?_
  refine seq_run0 (stp_add rfl rfl (by omega)) ?_
  refine qd rfl ?_
  exact ⟨_, backl H, ⟨rfl, rfl, rfl, rfl, trivial⟩, ⟨rfl, rfl, trivial⟩⟩
theorem k_strings_Repeat (s : Bs) (n : Int) (r : Bs) (H : m_strings_Repeat s n = some r) : Fn Tryz.prog 116 [vstr s, vint n] (resOf [vstr r]) := by
 obtain ⟨h0, h1, h2, rfl⟩ := repeat_some H
 obtain ⟨c, rfl⟩ := Int.eq_ofNat_of_zero_le h0
 refine fn_of_calls (by kernel_rfl) fun M w vs h => ?_
 have hv := Ts_vals (us := [.string ⟨s.toArray⟩, .int .i64 c]) h
 subst hv
 have hs : (ByteArray.mk s.toArray).size = s.length := by simp [ByteArray.size]
 refine (Tryz.strings_Repeat ⟨s.toArray⟩ c w (by omega) (by rw [hs]; exact Nat.le_trans (Nat.mul_le_mul h2 (show c ≤ 1000000 by omega)) (by decide))).mono ?_
 rintro e w' ⟨rfl, hb⟩
 exact ⟨_, rfl, by simp [resOf, vstr, vval], Kp.of_below hb⟩
theorem k_gatemake_Stream_Scope (s1 : S_gatemake_Stream) (r : (Bs × S_gatemake_Stream)) (H : m_gatemake_Stream_Scope s1 = some r) : Imp Tryz.prog 86 25 (C_gatemake_Stream s1) [] (resOf [vstr r.1]) (C_gatemake_Stream r.2) := by
 refine imp_of (us := [vstr r.1]) (cs' := (C_gatemake_Stream r.2)) (by kernel_rfl) Tryz.func86 rfl rfl rfl rfl fun X bl hN => ?_
 unfold m_gatemake_Stream_Scope at H
 refine awp_seq ?_
 refine awp_plain hN rfl ?_
 refine qe rfl ?_
 refine awp_seq ?_
 refine awp_seq ?_
 refine awp_plain hN rfl ?_
 refine seq_run0 (stp_move (.ptr _ _) rfl) ?_
 obtain ⟨r2, h3, H⟩ := bnd H
 refine seq_run2 (stp_imp (k_gatemake_Stream_Flip s1 25 r2 h3) rfl ⟨.inl rfl, trivial⟩ rfl) rfl ?_
 refine awp_cond _ rfl (fun h4 => ?_) (fun h4 => ?_)
 ·replace H := ift h4 H
  refine awp_seq ?_
  refine awp_plain hN rfl ?_
  refine seq_run0 (stp_move (.ptr _ _) rfl) ?_
  obtain ⟨r5, h6, H⟩ := bnd H
  refine seq_run0 (stp_call (k_strings_Repeat [97, 58] 10 r5 h6) ⟨.inl rfl, .inl rfl, trivial⟩) ?_
  obtain ⟨h7, H⟩ := gif H
  refine seq_run0 (stp_sadd rfl rfl (Nat.le_trans h7 (by decide))) ?_
  refine seq_run0 (stp_dat (u' := vlst (List.map C_string [[], [97, 58, 42, 58, 98], [65], [97, 58, 58, 98], [97, 58], [42, 42], [97, 42], (r5 ++ [97])])) (stp_lit [[_], [_], [_], [_], [_], [_], [_], [_]] tyL61 ⟨rfl, .inl ⟨_, rfl, rfl, rfl⟩, rfl, rfl, .inl ⟨_, rfl, rfl, rfl⟩, rfl, rfl, .inl ⟨_, rfl, rfl, rfl⟩, rfl, rfl, .inl ⟨_, rfl, rfl, rfl⟩, rfl, rfl, .inl ⟨_, rfl, rfl, rfl⟩, rfl, rfl, .inl ⟨_, rfl, rfl, rfl⟩, rfl, rfl, .inl ⟨_, rfl, rfl, rfl⟩, rfl, rfl, .inl ⟨_, rfl, rfl, rfl⟩, rfl, trivial⟩ rfl rfl) rfl) ?_
  obtain ⟨r8, h9, H⟩ := bnd H
  refine seq_run2 (stp_imp (k_gatemake_Stream_Some r2.2 ([[], [97, 58, 42, 58, 98], [65], [97, 58, 58, 98], [97, 58], [42, 42], [97, 42], (r5 ++ [97])]) r8 h9) rfl ⟨.inl rfl, trivial⟩ rfl) rfl ?_
  refine qe rfl ?_
  refine awp_ret ?_
  cases H
  exact ⟨trivial, ⟨.inl rfl, trivial⟩, rfl⟩
 ·replace H := iff_ h4 H
  refine awp_skip ?_
  refine awp_seq ?_
  refine awp_plain hN rfl ?_
  refine seq_run0 (stp_move (.ptr _ _) rfl) ?_
  refine seq_run0 (stp_dat (u' := vlst (List.map C_string [[42], [97], [97, 58, 42], [97, 58, 98], [97, 58, 98, 58, 42], [97, 58, 98, 58, 99], [98], [98, 58, 42], [98, 58, 99], [99]])) (stp_lit [[_], [_], [_], [_], [_], [_], [_], [_], [_], [_]] tyL61 ⟨rfl, .inl ⟨_, rfl, rfl, rfl⟩, rfl, rfl, .inl ⟨_, rfl, rfl, rfl⟩, rfl, rfl, .inl ⟨_, rfl, rfl, rfl⟩, rfl, rfl, .inl ⟨_, rfl, rfl, rfl⟩, rfl, rfl, .inl ⟨_, rfl, rfl, rfl⟩, rfl, rfl, .inl ⟨_, rfl, rfl, rfl⟩, rfl, rfl, .inl ⟨_, rfl, rfl, rfl⟩, rfl, rfl, .inl ⟨_, rfl, rfl, rfl⟩, rfl, rfl, .inl ⟨_, rfl, rfl, rfl⟩, rfl, rfl, .inl ⟨_, rfl, rfl, rfl⟩, rfl, trivial⟩ rfl rfl) rfl) ?_
  obtain ⟨r10, h11, H⟩ := bnd H
  refine seq_run2 (stp_imp (k_gatemake_Stream_Some r2.2 ([[42], [97], [97, 58, 42], [97, 58, 98], [97, 58, 98, 58, 42], [97, 58, 98, 58, 99], [98], [98, 58, 42], [98, 58, 99], [99]]) r10 h11) rfl ⟨.inl rfl, trivial⟩ rfl) rfl ?_
  refine qe rfl ?_
  refine awp_ret ?_
  cases H
  exact ⟨trivial, ⟨.inl rfl, trivial⟩, rfl⟩
theorem kr_gatemake_Stream_RightScopes (s1 : S_gatemake_Stream) (r : ((List Bs) × S_gatemake_Stream)) (H : m_gatemake_Stream_RightScopes s1 = some r) : FnG Tryz.prog 85 [.ptr 0 0] [(0, .box (some 0) 25 (List.map .dat (C_gatemake_Stream s1)))] (.row 1 r.1.length) [(0, .box (some 0) 25 (List.map .dat (C_gatemake_Stream r.2))), (1, .row 9 1 (List.map C_string r.1))] := by
 refine fnG_of (by kernel_rfl) Tryz.func85 rfl rfl rfl rfl fun X A hN => ?_
 unfold m_gatemake_Stream_RightScopes at H
 refine awp_seq ?_
 refine awp_plain hN rfl ?_
 refine qe rfl ?_
 refine awp_seq ?_
 refine awp_plain hN rfl ?_
 refine qe rfl ?_
 refine awp_seq ?_
 refine awp_seq ?_
 refine awp_plain hN rfl ?_
 refine seq_run0 (stp_move (.ptr _ _) rfl) ?_
 obtain ⟨r2, h3, H⟩ := bnd H
 refine seq_run2 (stp_imp (k_gatemake_Stream_Range s1 0 4 r2 h3) rfl ⟨.inl rfl, .inl rfl, trivial⟩ rfl) rfl ?_
 refine qd rfl ?_
 refine awp_block ?_
 refine awp_nilrow 3 1 9 1 rfl rfl rfl ?_
 obtain ⟨h9, H⟩ := gif H
 refine awp_rng (fun (k7 : Nat) (s : (List Int) × Int × (List Bs)) => [(0, .ptr 0 0), (3, .row 1 s.2.2.length), (5, .dat (vint r2.1)), (6, .dat (vint (k7 : Int)))]) (fun (k7 : Nat) (s : (List Int) × Int × (List Bs)) => [(0, .box (some (A.bl 0)) 25 [.dat (vlst (List.map C_int s.1)), .dat (vint s.2.1)]), (1, .row 9 1 (List.map C_string s.2.2))]) (r2.2.L, r2.2.at_, []) H ⟨rfl, rfl, rfl, rfl, trivial⟩ ⟨rfl, rfl, trivial⟩ (fun _ _ => rfl) ?_ ?_
 ·rintro ⟨c4, c5, l6⟩ H
  replace H : gatemake_Stream_RightScopes_E1 c4 c5 l6 = some r := H
  unfold gatemake_Stream_RightScopes_E1 at H
  refine awp_seq ?_
  refine awp_plain hN rfl ?_
  refine seq_run0 (stp_lss rfl rfl) ?_
  refine awp_seq ?_
  refine awp_cond _ rfl (fun h => (lt_tI h).elim) (fun h => ?_)
  refine awp_exit ?_
  refine awp_seq ?_
  refine awp_plain hN rfl ?_
  refine seq_run0 (stp_move (.row _ _) rfl) ?_
  refine seq_run0 (stp_assign (.row _ _) rfl) ?_
  refine awp_ret ?_
  cases H
  exact ⟨trivial, [(2, .row 1 _)], ⟨rfl, trivial⟩, ⟨rfl, rfl, trivial⟩, rfl, .inr (.inl ⟨2, rfl, rfl⟩)⟩
 ·rintro k7 ⟨c4, c5, l6⟩ q8 h10 H hq8
  replace H : gatemake_Stream_RightScopes_L1 k7 c4 c5 l6 = some q8 := H
  unfold gatemake_Stream_RightScopes_L1 at H
  refine awp_seq ?_
  refine awp_plain hN rfl ?_
  refine seq_run0 (stp_lss rfl rfl) ?_
  refine awp_seq ?_
  refine awp_cond _ rfl (fun h => ?_) (fun h => (lt_fI h10 h).elim)
  refine awp_skip ?_
  refine awp_seq ?_
  refine awp_block ?_
  refine awp_plain hN rfl ?_
  refine seq_run0 (stp_move (.row _ _) rfl) ?_
  refine seq_run0 (stp_move (.ptr _ _) rfl) ?_
  refine seq_run0 (stp_dat (u' := vlst (List.map C_string [[97], [97, 58, 42], [97, 58, 98], [97, 58, 98, 58, 42], [97, 58, 98, 58, 99], [98], [98, 58, 42], [98, 58, 99], [42]])) (stp_lit [[_], [_], [_], [_], [_], [_], [_], [_], [_]] tyL61 ⟨rfl, .inl ⟨_, rfl, rfl, rfl⟩, rfl, rfl, .inl ⟨_, rfl, rfl, rfl⟩, rfl, rfl, .inl ⟨_, rfl, rfl, rfl⟩, rfl, rfl, .inl ⟨_, rfl, rfl, rfl⟩, rfl, rfl, .inl ⟨_, rfl, rfl, rfl⟩, rfl, rfl, .inl ⟨_, rfl, rfl, rfl⟩, rfl, rfl, .inl ⟨_, rfl, rfl, rfl⟩, rfl, rfl, .inl ⟨_, rfl, rfl, rfl⟩, rfl, rfl, .inl ⟨_, rfl, rfl, rfl⟩, rfl, trivial⟩ rfl rfl) rfl) ?_
  obtain ⟨r11, h12, H⟩ := bnd H
  refine seq_run2 (stp_imp (k_gatemake_Stream_Some (S_gatemake_Stream.mk c4 c5) ([[97], [97, 58, 42], [97, 58, 98], [97, 58, 98, 58, 42], [97, 58, 98, 58, 99], [98], [98, 58, 42], [98, 58, 99], [42]]) r11 h12) rfl ⟨.inl rfl, trivial⟩ rfl) rfl ?_
  refine seq_run0 (stp_dat (u' := vlst (List.map C_string [r11.1])) (stp_lit [[_]] tyL61 ⟨rfl, .inl ⟨_, rfl, rfl, rfl⟩, rfl, trivial⟩ rfl rfl) rfl) ?_
  obtain ⟨h13, H⟩ := gif H
  refine seq_run2 (t_app tyL61 (fun _ => rfl) rfl rfl rfl ⟨by simp, by first | (simp; done) | simpa using h13⟩ rfl) rfl ?_
  refine seq_run0 (stp_assign (.row _ _) rfl) ?_
  refine awp_plain hN rfl ?_
  refine seq_run0 (stp_add rfl rfl (by omega)) ?_
  refine qd rfl ?_
  exact ⟨_, backl H, ⟨rfl, rfl, rfl, rfl, trivial⟩, ⟨rfl, rfl, trivial⟩⟩
theorem k_gatemake_Stream_Scopes (s1 : S_gatemake_Stream) (r : ((List Bs) × S_gatemake_Stream)) (H : m_gatemake_Stream_Scopes s1 = some r) : Imp Tryz.prog 53 25 (C_gatemake_Stream s1) [] (resOf [vlst (List.map C_string r.1)]) (C_gatemake_Stream r.2) := by
 refine imp_of (us := [vlst (List.map C_string r.1)]) (cs' := (C_gatemake_Stream r.2)) (by kernel_rfl) Tryz.func53 rfl rfl rfl rfl fun X bl hN => ?_
 unfold m_gatemake_Stream_Scopes at H
 refine awp_seq ?_
 refine awp_plain hN rfl ?_
 refine qe rfl ?_
 refine awp_seq ?_
 refine awp_plain hN rfl ?_
 refine seq_run0 (stp_move (.ptr _ _) rfl) ?_
 obtain ⟨r2, h3, H⟩ := bnd H
 refine seq_callG (rn [(0, 0), (1, 1)]) [(0, _, _, some _)] [(1, _)] (kr_gatemake_Stream_RightScopes s1 r2 h3) ⟨rfl, rfl, trivial⟩ ⟨.inl (.inl rfl), trivial⟩ ⟨⟨⟨rfl, rfl⟩, trivial⟩, trivial⟩ rfl ?_
 refine seq_run0 (stp_assign (.row _ _) rfl) ?_
 refine awp_joinE (ι := (List Bs) × (List Int) × Int) (fun i => [(0, .ptr 0 0), (3, .row 1 i.1.length)]) (fun i => [(0, .box (some bl) 25 [.dat (vlst (List.map C_int i.2.1)), .dat (vint i.2.2)]), (1, .row 9 1 (List.map C_string i.1))]) (fun i => gatemake_Stream_Scopes_J1 i.1 i.2.1 i.2.2 = some r) (fun i => rfl) ?_ ?_
 ·skip
  refine awp_seq ?_
  refine awp_plain hN rfl ?_
  refine seq_run0 (stp_move (.ptr _ _) rfl) ?_
  obtain ⟨r4, h5, H⟩ := bnd H
  refine seq_run2 (stp_imp (k_gatemake_Stream_Flip r2.2 6 r4 h5) rfl ⟨.inl rfl, trivial⟩ rfl) rfl ?_
  refine awp_cond _ rfl (fun h6 => ?_) (fun h6 => ?_)
  ·replace H := ift h6 H
   refine awp_plain hN rfl ?_
   refine seq_run0 (stp_move (.row _ _) rfl) ?_
   refine seq_run0 (stp_move (.ptr _ _) rfl) ?_
   obtain ⟨r7, h8, H⟩ := bnd H
   refine seq_run2 (stp_imp (k_gatemake_Stream_Scope r4.2 r7 h8) rfl trivial rfl) rfl ?_
   refine seq_run0 (stp_dat (u' := vlst (List.map C_string [r7.1])) (stp_lit [[_]] tyL61 ⟨rfl, .inl ⟨_, rfl, rfl, rfl⟩, rfl, trivial⟩ rfl rfl) rfl) ?_
   obtain ⟨h9, H⟩ := gif H
   refine seq_run2 (t_app tyL61 (fun _ => rfl) rfl rfl rfl ⟨by simp, by first | (simp; done) | simpa using h9⟩ rfl) rfl ?_
   refine seq_run0 (stp_assign (.row _ _) rfl) ?_
   exact ⟨((r2.1 ++ [r7.1]), r7.2.L, r7.2.at_), H, ⟨rfl, rfl, trivial⟩, ⟨rfl, rfl, trivial⟩⟩
  ·replace H := iff_ h6 H
   refine awp_skip ?_
   exact ⟨(r2.1, r4.2.L, r4.2.at_), H, ⟨rfl, rfl, trivial⟩, ⟨rfl, rfl, trivial⟩⟩
 ·rintro ⟨out10, c11, c12⟩ H
  replace H : gatemake_Stream_Scopes_J1 out10 c11 c12 = some r := H
  unfold gatemake_Stream_Scopes_J1 at H
  refine awp_joinZ (ι := (List Bs) × (List Int) × Int) (fun i => [(3, .dat (vlst (List.map C_string i.1)))]) (fun i => [(0, .box (some bl) 25 [.dat (vlst (List.map C_int i.2.1)), .dat (vint i.2.2)])]) (fun i => gatemake_Stream_Scopes_J2 i.1 i.2.1 i.2.2 = some r) (fun i => rfl) (fun i => rfl) ?_ ?_
  ·skip
   refine awp_seq ?_
   refine awp_plain hN rfl ?_
   refine seq_run0 (stp_move (.ptr _ _) rfl) ?_
   obtain ⟨r13, h14, H⟩ := bnd H
   refine seq_run2 (stp_imp (k_gatemake_Stream_Flip (S_gatemake_Stream.mk c11 c12) 60 r13 h14) rfl ⟨.inl rfl, trivial⟩ rfl) rfl ?_
   refine awp_cond _ rfl (fun h15 => ?_) (fun h15 => ?_)
   ·replace H := ift h15 H
    refine awp_plain hN rfl ?_
    obtain ⟨h16, H⟩ := gif H
    refine seq_run2 (t_make (C := C_string) 2 [] tyL61 tyZ9 rfl rfl rfl rfl h16 rfl) rfl ?_
    refine seq_run0 (stp_assign (.row _ _) rfl) ?_
    exact ⟨[(3, 2)], _, _, _, _, rfl, rfl, by simp, ⟨((List.replicate 51 []), r13.2.L, r13.2.at_), H, ⟨.inl rfl, trivial⟩, ⟨rfl, trivial⟩⟩⟩
   ·replace H := iff_ h15 H
    refine awp_skip ?_
    exact ⟨[(3, 1)], _, _, _, _, rfl, rfl, by simp, ⟨(out10, r13.2.L, r13.2.at_), H, ⟨.inl rfl, trivial⟩, ⟨rfl, trivial⟩⟩⟩
  ·rintro ⟨out17, c18, c19⟩ H
   replace H : gatemake_Stream_Scopes_J2 out17 c18 c19 = some r := H
   unfold gatemake_Stream_Scopes_J2 at H
   refine awp_seq ?_
   refine awp_plain hN rfl ?_
   refine qd rfl ?_
   refine qe rfl ?_
   refine awp_ret ?_
   cases H
   exact ⟨trivial, ⟨.inl rfl, trivial⟩, rfl⟩
theorem k_gatemake_Stream_RightCatalog (s1 : S_gatemake_Stream) (r : (S_api_Catalog × S_gatemake_Stream)) (H : m_gatemake_Stream_RightCatalog s1 = some r) : Imp Tryz.prog 52 25 (C_gatemake_Stream s1) [] (resOf [vagg (C_api_Catalog r.1)]) (C_gatemake_Stream r.2) := by
 refine imp_of (us := [vagg (C_api_Catalog r.1)]) (cs' := (C_gatemake_Stream r.2)) (by kernel_rfl) Tryz.func52 rfl rfl rfl rfl fun X bl hN => ?_
 unfold m_gatemake_Stream_RightCatalog at H
 refine awp_seq ?_
 refine awp_plain hN rfl ?_
 refine seq_run2 (stp_alloc 1 tyZ29 rfl) rfl ?_
 refine awp_seq ?_
 refine awp_plain hN rfl ?_
 refine seq_run0 (stp_move (.ptr _ _) rfl) ?_
 obtain ⟨r2, h3, H⟩ := bnd H
 refine seq_run2 (stp_imp (k_gatemake_Stream_RightScopes s1 r2 h3) rfl trivial rfl) rfl ?_
 refine seq_run0 (stp_dat (u' := vagg (C_api_Product (S_api_Product.mk [109, 97, 112, 115] r2.1))) (stp_build [(0, [vstr [109, 97, 112, 115]]), (1, [vlst (List.map C_string r2.1)])] tyZ89 tyP89 rfl ⟨rfl, .inl ⟨_, rfl, rfl, rfl⟩, rfl, rfl, .inl ⟨_, rfl, rfl, rfl⟩, rfl, trivial⟩) rfl) ?_
 refine seq_run0 (stp_dat (u' := vlst (List.map C_string [[111, 114, 100, 101, 114, 115]])) (stp_lit [[_]] tyL61 ⟨rfl, .inl ⟨_, rfl, rfl, rfl⟩, rfl, trivial⟩ rfl rfl) rfl) ?_
 refine seq_run0 (stp_dat (u' := vagg (C_api_Product (S_api_Product.mk [115, 104, 111, 112] ([[111, 114, 100, 101, 114, 115]])))) (stp_build [(0, [vstr [115, 104, 111, 112]]), (1, [vlst (List.map C_string ([[111, 114, 100, 101, 114, 115]]))])] tyZ89 tyP89 rfl ⟨rfl, .inl ⟨_, rfl, rfl, rfl⟩, rfl, rfl, .inl ⟨_, rfl, rfl, rfl⟩, rfl, trivial⟩) rfl) ?_
 refine seq_run0 (stp_dat (u' := vlst (List.map C_api_Product [(S_api_Product.mk [109, 97, 112, 115] r2.1), (S_api_Product.mk [115, 104, 111, 112] ([[111, 114, 100, 101, 114, 115]]))])) (stp_lit [_, _] tyL26 ⟨rfl, .inr rfl, rfl, rfl, .inr rfl, rfl, trivial⟩ rfl rfl) rfl) ?_
 refine seq_run0 (stp_dat (u' := vagg [vlst (List.map C_api_Product ([(S_api_Product.mk [109, 97, 112, 115] r2.1), (S_api_Product.mk [115, 104, 111, 112] ([[111, 114, 100, 101, 114, 115]]))])), vnil]) (stp_build [(0, [vlst (List.map C_api_Product ([(S_api_Product.mk [109, 97, 112, 115] r2.1), (S_api_Product.mk [115, 104, 111, 112] ([[111, 114, 100, 101, 114, 115]]))]))])] tyZ29 tyP29 rfl ⟨rfl, .inl ⟨_, rfl, rfl, rfl⟩, rfl, trivial⟩) rfl) ?_
 refine seq_run2 (stp_alloc 2 tyZ29 rfl) rfl ?_
 refine seq_run2 (stp_storeW tyS29 rfl rfl rfl rfl) rfl ?_
 refine awp_nilrowB 2 1 3 64 8 rfl rfl rfl rfl ?_
 refine awp_seq ?_
 refine awp_seq ?_
 refine awp_plain hN rfl ?_
 refine seq_run0 (stp_dat (u' := vlst (List.map C_string [[98, 105, 103], [102, 114, 101, 101], [109, 105, 100], [115, 109, 97, 108, 108]])) (stp_lit [[_], [_], [_], [_]] tyL61 ⟨rfl, .inl ⟨_, rfl, rfl, rfl⟩, rfl, rfl, .inl ⟨_, rfl, rfl, rfl⟩, rfl, rfl, .inl ⟨_, rfl, rfl, rfl⟩, rfl, rfl, .inl ⟨_, rfl, rfl, rfl⟩, rfl, trivial⟩ rfl rfl) rfl) ?_
 refine seq_run0 (t_len tyU61 rfl) ?_
 refine qd rfl ?_
 refine awp_block ?_
 obtain ⟨h9, H⟩ := gif H
 refine awp_forL (fun (k7 : Nat) (s : (List S_api_Plan) × (List Int) × Int) => [(0, .ptr 0 0), (2, .ptr 1 0), (3, .ptr 2 0), (15, .dat (vlst (List.map C_string ([[98, 105, 103], [102, 114, 101, 101], [109, 105, 100], [115, 109, 97, 108, 108]])))), (16, .dat (vint (([[98, 105, 103], [102, 114, 101, 101], [109, 105, 100], [115, 109, 97, 108, 108]]).length : Int))), (17, .dat (vint (k7 : Int)))]) (fun (k7 : Nat) (s : (List S_api_Plan) × (List Int) × Int) => [(0, .box (some bl) 25 [.dat (vlst (List.map C_int s.2.1)), .dat (vint s.2.2)]), (1, .box none 29 [.dat (vnil), .dat (vnil)]), (2, .box none 29 [.dat (vlst (List.map C_api_Product ([(S_api_Product.mk [109, 97, 112, 115] r2.1), (S_api_Product.mk [115, 104, 111, 112] ([[111, 114, 100, 101, 114, 115]]))]))), .row 3 s.1.length]), (3, .row 64 8 (List.map C_api_Plan s.1))]) (([] : List S_api_Plan), r2.2.L, r2.2.at_) H ⟨rfl, rfl, rfl, rfl, rfl, rfl, trivial⟩ ⟨rfl, rfl, (congrArg (fun n => some (some (AObj.box none 29 [.dat (vlst (List.map C_api_Product ([(S_api_Product.mk [109, 97, 112, 115] r2.1), (S_api_Product.mk [115, 104, 111, 112] ([[111, 114, 100, 101, 114, 115]]))]))), .row 3 n]))) (show 0 = ([] : List S_api_Plan).length from (by simp))), rfl, trivial⟩ (fun _ _ => rfl) ?_ ?_
 ·rintro ⟨l4, c5, c6⟩ H
  replace H : gatemake_Stream_RightCatalog_E1 r2 l4 c5 c6 = some r := H
  unfold gatemake_Stream_RightCatalog_E1 at H
  refine awp_seq ?_
  refine awp_plain hN rfl ?_
  refine seq_run0 (stp_lss rfl rfl) ?_
  refine awp_seq ?_
  refine awp_cond _ rfl (fun h => (lt_t h).elim) (fun h => ?_)
  refine awp_exit ?_
  refine awp_seq ?_
  refine awp_frzC 2 1 3 rfl rfl rfl (by rw [List.length_map]) ?_
  refine awp_plain hN rfl ?_
  refine seq_run1 (stp_loadA tyS29 rfl rfl rfl) rfl ?_
  refine seq_run2 (stp_storeW tyS29 rfl rfl rfl rfl) rfl ?_
  refine awp_ret ?_
  cases H
  exact ⟨trivial, ⟨.inl ⟨_, _, _, C_api_Catalog (S_api_Catalog.mk ([(S_api_Product.mk [109, 97, 112, 115] r2.1), (S_api_Product.mk [115, 104, 111, 112] ([[111, 114, 100, 101, 114, 115]]))]) l4), rfl, rfl, rfl, rfl, tyS29⟩, trivial⟩, rfl⟩
 ·rintro k7 x10 ⟨l4, c5, c6⟩ q8 h11 h12 H hq8
  replace H : gatemake_Stream_RightCatalog_L1 k7 x10 l4 c5 c6 = some q8 := H
  unfold gatemake_Stream_RightCatalog_L1 at H
  refine awp_cv ?_
  refine awp_seq ?_
  refine awp_plain hN rfl ?_
  refine seq_run0 (stp_lss rfl rfl) ?_
  refine awp_seq ?_
  refine awp_cond _ rfl (fun h => ?_) (fun h => (lt_f h11 h).elim)
  refine awp_skip ?_
  refine awp_joinE (ι := (List Int) × Int × (List S_api_Plan)) (fun i => [(0, .ptr 0 0), (2, .ptr 1 0), (3, .ptr 2 0), (15, .dat (vlst (List.map C_string ([[98, 105, 103], [102, 114, 101, 101], [109, 105, 100], [115, 109, 97, 108, 108]])))), (16, .dat (vint (([[98, 105, 103], [102, 114, 101, 101], [109, 105, 100], [115, 109, 97, 108, 108]]).length : Int))), (17, .dat (vint (k7 : Int)))]) (fun i => [(0, .box (some bl) 25 [.dat (vlst (List.map C_int i.1)), .dat (vint i.2.1)]), (1, .box none 29 [.dat (vnil), .dat (vnil)]), (2, .box none 29 [.dat (vlst (List.map C_api_Product ([(S_api_Product.mk [109, 97, 112, 115] r2.1), (S_api_Product.mk [115, 104, 111, 112] ([[111, 114, 100, 101, 114, 115]]))]))), .row 3 i.2.2.length]), (3, .row 64 8 (List.map C_api_Plan i.2.2))]) (fun i => gatemake_Stream_RightCatalog_J2 i.1 i.2.1 i.2.2 = some q8) (fun i => rfl) ?_ ?_
  ·refine awp_cv ?_
   refine awp_block ?_
   refine awp_seq ?_
   refine awp_plain hN rfl ?_
   refine seq_run0 (t_idx tyE61 (fun _ => rfl) rfl rfl h12) ?_
   refine seq_run0 (stp_loadE1 tyS9 rfl (map_at h12) rfl) ?_
   refine qe rfl ?_
   refine awp_seq ?_
   refine awp_seq ?_
   refine awp_plain hN rfl ?_
   refine seq_run0 (stp_move (.ptr _ _) rfl) ?_
   obtain ⟨r13, h14, H⟩ := bnd H
   refine seq_run2 (stp_imp (k_gatemake_Stream_Flip (S_gatemake_Stream.mk c5 c6) 5 r13 h14) rfl ⟨.inl rfl, trivial⟩ rfl) rfl ?_
   refine awp_cond _ rfl (fun h15 => ?_) (fun h15 => ?_)
   ·replace H := ift h15 H
    refine awp_exit ?_
    show Cv _ _ _ _
    refine cv_in ?_
    exact ⟨(r13.2.L, r13.2.at_, l4), H, ⟨rfl, rfl, rfl, rfl, rfl, rfl, trivial⟩, ⟨rfl, rfl, rfl, rfl, trivial⟩⟩
   ·replace H := iff_ h15 H
    refine awp_skip ?_
    refine awp_seq ?_
    refine awp_plain hN rfl ?_
    refine qd rfl ?_
    refine seq_run0 (stp_move (.ptr _ _) rfl) ?_
    refine seq_run0 (stp_dat (u' := vlst (List.map C_string [[115, 104, 111, 112], [115, 104, 111, 112], [109, 97, 112, 115]])) (stp_lit [[_], [_], [_]] tyL61 ⟨rfl, .inl ⟨_, rfl, rfl, rfl⟩, rfl, rfl, .inl ⟨_, rfl, rfl, rfl⟩, rfl, rfl, .inl ⟨_, rfl, rfl, rfl⟩, rfl, trivial⟩ rfl rfl) rfl) ?_
    obtain ⟨r16, h17, H⟩ := bnd H
    refine seq_run2 (stp_imp (k_gatemake_Stream_Some r13.2 ([[115, 104, 111, 112], [115, 104, 111, 112], [109, 97, 112, 115]]) r16 h17) rfl ⟨.inl rfl, trivial⟩ rfl) rfl ?_
    refine seq_run0 (stp_move (.ptr _ _) rfl) ?_
    refine seq_run0 (stp_dat (u' := vlst (List.map C_int [0, 0, 1000, 3000, 31])) (stp_lit [[_], [_], [_], [_], [_]] tyL22 ⟨rfl, .inl ⟨_, rfl, rfl, rfl⟩, rfl, rfl, .inl ⟨_, rfl, rfl, rfl⟩, rfl, rfl, .inl ⟨_, rfl, rfl, rfl⟩, rfl, rfl, .inl ⟨_, rfl, rfl, rfl⟩, rfl, rfl, .inl ⟨_, rfl, rfl, rfl⟩, rfl, trivial⟩ rfl rfl) rfl) ?_
    obtain ⟨r18, h19, H⟩ := bnd H
    refine seq_run2 (stp_imp (k_gatemake_Stream_Pick r16.2 [0, 0, 1000, 3000, 31] r18 h19) rfl ⟨.inl rfl, trivial⟩ rfl) rfl ?_
    refine seq_run0 (stp_move (.ptr _ _) rfl) ?_
    refine seq_run0 (stp_dat (u' := vlst (List.map C_int [0, 10, 100])) (stp_lit [[_], [_], [_]] tyL22 ⟨rfl, .inl ⟨_, rfl, rfl, rfl⟩, rfl, rfl, .inl ⟨_, rfl, rfl, rfl⟩, rfl, rfl, .inl ⟨_, rfl, rfl, rfl⟩, rfl, trivial⟩ rfl rfl) rfl) ?_
    obtain ⟨r20, h21, H⟩ := bnd H
    refine seq_run2 (stp_imp (k_gatemake_Stream_Pick r18.2 [0, 10, 100] r20 h21) rfl ⟨.inl rfl, trivial⟩ rfl) rfl ?_
    refine seq_run0 (stp_move (.ptr _ _) rfl) ?_
    refine seq_run0 (stp_dat (u' := vlst (List.map C_int [(-1), (-1), 0, 1000])) (stp_lit [[_], [_], [_], [_]] tyL22 ⟨rfl, .inl ⟨_, rfl, rfl, rfl⟩, rfl, rfl, .inl ⟨_, rfl, rfl, rfl⟩, rfl, rfl, .inl ⟨_, rfl, rfl, rfl⟩, rfl, rfl, .inl ⟨_, rfl, rfl, rfl⟩, rfl, trivial⟩ rfl rfl) rfl) ?_
    obtain ⟨r22, h23, H⟩ := bnd H
    refine seq_run2 (stp_imp (k_gatemake_Stream_Pick r20.2 [(-1), (-1), 0, 1000] r22 h23) rfl ⟨.inl rfl, trivial⟩ rfl) rfl ?_
    refine seq_run0 (stp_move (.ptr _ _) rfl) ?_
    refine seq_run0 (stp_dat (u' := vlst (List.map C_int [0, 0, 1, 2])) (stp_lit [[_], [_], [_], [_]] tyL22 ⟨rfl, .inl ⟨_, rfl, rfl, rfl⟩, rfl, rfl, .inl ⟨_, rfl, rfl, rfl⟩, rfl, rfl, .inl ⟨_, rfl, rfl, rfl⟩, rfl, rfl, .inl ⟨_, rfl, rfl, rfl⟩, rfl, trivial⟩ rfl rfl) rfl) ?_
    obtain ⟨r24, h25, H⟩ := bnd H
    refine seq_run2 (stp_imp (k_gatemake_Stream_Pick r22.2 [0, 0, 1, 2] r24 h25) rfl ⟨.inl rfl, trivial⟩ rfl) rfl ?_
    refine seq_run0 (stp_move (.ptr _ _) rfl) ?_
    obtain ⟨r26, h27, H⟩ := bnd H
    refine seq_run2 (stp_imp (k_gatemake_Stream_Flip r24.2 2 r26 h27) rfl ⟨.inl rfl, trivial⟩ rfl) rfl ?_
    refine seq_run0 (stp_dat (u' := vagg [vstr x10, vstr r16.1, vint r18.1, vint r20.1, vnil, vint r22.1, vint r24.1, vbool r26.1]) (stp_build [(0, [vstr x10]), (1, [vstr r16.1]), (2, [vint r18.1]), (3, [vint r20.1]), (5, [vint r22.1]), (6, [vint r24.1]), (7, [vbool r26.1])] tyZ64 tyP64 rfl ⟨rfl, .inl ⟨_, rfl, rfl, rfl⟩, rfl, rfl, .inl ⟨_, rfl, rfl, rfl⟩, rfl, rfl, .inl ⟨_, rfl, rfl, rfl⟩, rfl, rfl, .inl ⟨_, rfl, rfl, rfl⟩, rfl, rfl, .inl ⟨_, rfl, rfl, rfl⟩, rfl, rfl, .inl ⟨_, rfl, rfl, rfl⟩, rfl, rfl, .inl ⟨_, rfl, rfl, rfl⟩, rfl, trivial⟩) rfl) ?_
    refine seq_run2 (stp_alloc 4 tyZ64 rfl) rfl ?_
    refine seq_run2 (stp_storeW tyS64 rfl rfl rfl rfl) rfl ?_
    refine awp_nilrowB 4 4 5 92 2 rfl rfl rfl rfl ?_
    refine awp_seq ?_
    refine awp_plain hN rfl ?_
    refine qe rfl ?_
    refine awp_seq ?_
    refine awp_seq ?_
    refine awp_plain hN rfl ?_
    refine seq_run0 (stp_move (.ptr _ _) rfl) ?_
    refine seq_run0 (stp_dat (u' := vlst (List.map C_int [0, 1, 2, 3])) (stp_lit [[_], [_], [_], [_]] tyL22 ⟨rfl, .inl ⟨_, rfl, rfl, rfl⟩, rfl, rfl, .inl ⟨_, rfl, rfl, rfl⟩, rfl, rfl, .inl ⟨_, rfl, rfl, rfl⟩, rfl, rfl, .inl ⟨_, rfl, rfl, rfl⟩, rfl, trivial⟩ rfl rfl) rfl) ?_
    obtain ⟨r28, h29, H⟩ := bnd H
    refine seq_run2 (stp_imp (k_gatemake_Stream_Pick r26.2 [0, 1, 2, 3] r28 h29) rfl ⟨.inl rfl, trivial⟩ rfl) rfl ?_
    refine qd rfl ?_
    refine awp_block ?_
    obtain ⟨h36, H⟩ := gif H
    refine awp_rng (fun (k34 : Nat) (s : Int × (List S_api_Tier) × (List Int) × Int) => [(0, .ptr 0 0), (2, .ptr 1 0), (3, .ptr 2 0), (6, .ptr 4 0), (7, .dat (vint s.1)), (15, .dat (vlst (List.map C_string ([[98, 105, 103], [102, 114, 101, 101], [109, 105, 100], [115, 109, 97, 108, 108]])))), (16, .dat (vint (([[98, 105, 103], [102, 114, 101, 101], [109, 105, 100], [115, 109, 97, 108, 108]]).length : Int))), (17, .dat (vint (k7 : Int))), (44, .dat (vint r28.1)), (45, .dat (vint (k34 : Int)))]) (fun (k34 : Nat) (s : Int × (List S_api_Tier) × (List Int) × Int) => [(0, .box (some bl) 25 [.dat (vlst (List.map C_int s.2.2.1)), .dat (vint s.2.2.2)]), (1, .box none 29 [.dat (vnil), .dat (vnil)]), (2, .box none 29 [.dat (vlst (List.map C_api_Product ([(S_api_Product.mk [109, 97, 112, 115] r2.1), (S_api_Product.mk [115, 104, 111, 112] ([[111, 114, 100, 101, 114, 115]]))]))), .row 3 l4.length]), (3, .row 64 8 (List.map C_api_Plan l4)), (4, .box none 64 [.dat (vstr x10), .dat (vstr r16.1), .dat (vint r18.1), .dat (vint r20.1), .row 5 s.2.1.length, .dat (vint r22.1), .dat (vint r24.1), .dat (vbool r26.1)]), (5, .row 92 2 (List.map C_api_Tier s.2.1))]) (1, ([] : List S_api_Tier), r28.2.L, r28.2.at_) H ⟨rfl, rfl, rfl, rfl, rfl, rfl, rfl, rfl, rfl, rfl, trivial⟩ ⟨rfl, rfl, rfl, rfl, (congrArg (fun n => some (some (AObj.box none 64 [.dat (vstr x10), .dat (vstr r16.1), .dat (vint r18.1), .dat (vint r20.1), .row 5 n, .dat (vint r22.1), .dat (vint r24.1), .dat (vbool r26.1)]))) (show 0 = ([] : List S_api_Tier).length from (by simp))), rfl, trivial⟩ (fun _ _ => rfl) ?_ ?_
    ·rintro ⟨v30, l31, c32, c33⟩ H
     replace H : gatemake_Stream_RightCatalog_E3 l4 x10 r16 r18 r20 r22 r24 r26 v30 l31 c32 c33 = some q8 := H
     unfold gatemake_Stream_RightCatalog_E3 at H
     refine awp_seq ?_
     refine awp_plain hN rfl ?_
     refine seq_run0 (stp_lss rfl rfl) ?_
     refine awp_seq ?_
     refine awp_cond _ rfl (fun h => (lt_tI h).elim) (fun h => ?_)
     refine awp_exit ?_
     refine awp_frzC 4 4 5 rfl rfl rfl (by rw [List.length_map]) ?_
     refine awp_plain hN rfl ?_
     refine seq_run0 (stp_fldP tyF29_1 rfl) ?_
     refine seq_run1 (stp_load1 tyS27 rfl rfl) rfl ?_
     refine seq_run1 (stp_loadA tyS64 rfl rfl rfl) rfl ?_
     refine seq_run0 (stp_dat (u' := vlst (List.map C_api_Plan [(S_api_Plan.mk x10 r16.1 r18.1 r20.1 l31 r22.1 r24.1 r26.1)])) (stp_lit [_] tyL27 ⟨rfl, .inr rfl, rfl, trivial⟩ rfl rfl) rfl) ?_
     obtain ⟨h37, H⟩ := gif H
     refine seq_run2 (t_app tyL27 (fun _ => rfl) rfl rfl rfl ⟨by simp, by first | (simp; done) | simpa using h37⟩ rfl) rfl ?_
     refine seq_run0 (stp_fldP tyF29_1 rfl) ?_
     refine seq_run4 (stp_storeS tyS27 rfl rfl (by rw [List.length_map]) rfl) rfl rfl ?_
     refine seq_end ?_
     show Cv _ _ _ _
     refine cv_in ?_
     exact ⟨(c32, c33, (l4 ++ [(S_api_Plan.mk x10 r16.1 r18.1 r20.1 l31 r22.1 r24.1 r26.1)])), H, ⟨rfl, rfl, rfl, rfl, rfl, rfl, trivial⟩, ⟨rfl, rfl, rfl, rfl, trivial⟩⟩
    ·rintro k34 ⟨v30, l31, c32, c33⟩ q35 h38 H hq35
     replace H : gatemake_Stream_RightCatalog_L3 k34 v30 l31 c32 c33 = some q35 := H
     unfold gatemake_Stream_RightCatalog_L3 at H
     refine awp_cv ?_
     refine awp_seq ?_
     refine awp_plain hN rfl ?_
     refine seq_run0 (stp_lss rfl rfl) ?_
     refine awp_seq ?_
     refine awp_cond _ rfl (fun h => ?_) (fun h => (lt_fI h38 h).elim)
     refine awp_skip ?_
     refine awp_seq ?_
     refine awp_block ?_
     refine awp_seq ?_
     refine awp_draw mixed hN rfl rfl ?_
     refine seq_run0 (stp_fldP tyF64_4 rfl) ?_
     refine seq_run1 (stp_load1 tyS62 rfl rfl) rfl ?_
     refine qd rfl ?_
     refine seq_run0 (stp_move (.ptr _ _) rfl) ?_
     refine seq_run0 (stp_dat (u' := vlst (List.map C_int [0, 100, 500, 1500])) (stp_lit [[_], [_], [_], [_]] tyL22 ⟨rfl, .inl ⟨_, rfl, rfl, rfl⟩, rfl, rfl, .inl ⟨_, rfl, rfl, rfl⟩, rfl, rfl, .inl ⟨_, rfl, rfl, rfl⟩, rfl, rfl, .inl ⟨_, rfl, rfl, rfl⟩, rfl, trivial⟩ rfl rfl) rfl) ?_
     obtain ⟨r39, h40, H⟩ := bnd H
     refine seq_run2 (stp_imp (k_gatemake_Stream_Pick (S_gatemake_Stream.mk c32 c33) [0, 100, 500, 1500] r39 h40) rfl ⟨.inl rfl, trivial⟩ rfl) rfl ?_
     refine seq_run0 (stp_dat (u' := vagg (C_api_Tier (S_api_Tier.mk v30 r39.1))) (stp_build [(0, [vint v30]), (1, [vint r39.1])] tyZ92 tyP92 rfl ⟨rfl, .inl ⟨_, rfl, rfl, rfl⟩, rfl, rfl, .inl ⟨_, rfl, rfl, rfl⟩, rfl, trivial⟩) rfl) ?_
     refine seq_run0 (stp_dat (u' := vlst (List.map C_api_Tier [(S_api_Tier.mk v30 r39.1)])) (stp_lit [_] tyL62 ⟨rfl, .inr rfl, rfl, trivial⟩ rfl rfl) rfl) ?_
     obtain ⟨h41, H⟩ := gif H
     refine seq_run2 (t_app tyL62 (fun _ => rfl) rfl rfl rfl ⟨by simp, by first | (simp; done) | simpa using h41⟩ rfl) rfl ?_
     refine seq_run0 (stp_fldP tyF64_4 rfl) ?_
     refine seq_run4 (stp_storeS tyS62 rfl rfl (by rw [List.length_map]) rfl) rfl rfl ?_
     refine ⟨rfl, ?_⟩
     refine awp_plain hN rfl ?_
     refine qd rfl ?_
     refine seq_run0 (stp_move (.ptr _ _) rfl) ?_
     refine seq_run0 (stp_dat (u' := vlst (List.map C_int [1, 9, 100])) (stp_lit [[_], [_], [_]] tyL22 ⟨rfl, .inl ⟨_, rfl, rfl, rfl⟩, rfl, rfl, .inl ⟨_, rfl, rfl, rfl⟩, rfl, rfl, .inl ⟨_, rfl, rfl, rfl⟩, rfl, trivial⟩ rfl rfl) rfl) ?_
     obtain ⟨r42, h43, H⟩ := bnd H
     refine seq_run2 (stp_imp (k_gatemake_Stream_Pick r39.2 [1, 9, 100] r42 h43) rfl ⟨.inl rfl, trivial⟩ rfl) rfl ?_
     refine seq_run0 (stp_wrap _ rfl rfl (.inl ⟨rfl, rfl⟩)) ?_
     refine qe rfl ?_
     refine awp_plain hN rfl ?_
     refine seq_run0 (stp_add rfl rfl (by omega)) ?_
     refine qd rfl ?_
     refine seq_end ?_
     show Cv _ _ _ _
     refine cv_in ?_
     exact ⟨_, backl H, ⟨rfl, rfl, rfl, rfl, rfl, rfl, rfl, rfl, rfl, rfl, trivial⟩, ⟨rfl, rfl, rfl, rfl, rfl, rfl, trivial⟩⟩
  ·rintro ⟨c44, c45, l46⟩ H
   replace H : gatemake_Stream_RightCatalog_J2 c44 c45 l46 = some q8 := H
   unfold gatemake_Stream_RightCatalog_J2 at H
   refine awp_plain hN rfl ?_
   refine seq_run0 (stp_add rfl rfl (by omega)) ?_
   refine qd rfl ?_
   refine seq_end ?_
   show Cv _ _ _ _
   refine cv_in ?_
   exact ⟨_, backl H, ⟨rfl, rfl, rfl, rfl, rfl, rfl, trivial⟩, ⟨rfl, rfl, rfl, rfl, trivial⟩⟩
def C_planH (hv : Value) (x : S_api_Plan) : List V := [vstr x.Key, vstr x.Product, vint x.Base, vint x.Free, vval hv, vint x.Limit, vint x.Trial, vbool x.Asked]
def glQ (hv : Value) : List S_api_Plan → Nat → List (List V)
  | [], _ => []
  | p :: ps, 0 => C_planH hv p :: ps.map C_api_Plan
  | p :: ps, g + 1 => C_api_Plan p :: glQ hv ps g
def tieQ : List S_api_Plan → Nat → List S_api_Tier
  | [], _ => []
  | p :: ps, 0 => p.Tiers
  | p :: ps, g + 1 => tieQ ps g
abbrev glP (g : Nat) (hv : Value) (ps : List S_api_Plan) : List (List V) := glQ hv ps g
abbrev tiersAt (g : Nat) (ps : List S_api_Plan) : List S_api_Tier := tieQ ps g
theorem glP_len : ∀ (g : Nat) (hv : Value) (ps : List S_api_Plan), (glP g hv ps).length = ps.length
  | _, _, [] => rfl
  | 0, hv, p :: ps => by simp [glP, glQ]
  | g + 1, hv, p :: ps => by simp only [glP, glQ, List.length_cons]; rw [← glP_len g hv ps]
theorem glP_app : ∀ (g : Nat) (hv hv' : Value) (ps : List S_api_Plan) (p : S_api_Plan), (Nat.beq ps.length g = false → hv' = hv) → glP g hv' (ps ++ [p]) = glP g hv ps ++ [cond (Nat.beq ps.length g) (C_planH hv' p) (C_api_Plan p)]
  | 0, hv, hv', [], p, h => rfl
  | g + 1, hv, hv', [], p, h => rfl
  | 0, hv, hv', q :: ps, p, h => by
    have h1 : hv' = hv := h rfl
    subst h1
    show C_planH hv' q :: List.map C_api_Plan (ps ++ [p]) = (C_planH hv' q :: List.map C_api_Plan ps) ++ [C_api_Plan p]
    simp
  | g + 1, hv, hv', q :: ps, p, h => by
    have h1 := glP_app g hv hv' ps p (fun h2 => h h2)
    show C_api_Plan q :: glP g hv' (ps ++ [p]) = (C_api_Plan q :: glP g hv ps) ++ [cond (Nat.beq ps.length g) (C_planH hv' p) (C_api_Plan p)]
    rw [h1]; rfl
theorem tiersAt_app : ∀ (g : Nat) (ps : List S_api_Plan) (p : S_api_Plan), List.map C_api_Tier (tiersAt g (ps ++ [p])) = cond (Nat.beq ps.length g) (List.map C_api_Tier p.Tiers) (List.map C_api_Tier (tiersAt g ps))
  | 0, [], p => rfl
  | g + 1, [], p => by rfl
  | 0, q :: ps, p => rfl
  | g + 1, q :: ps, p => tiersAt_app g ps p
theorem glP_at : ∀ (g : Nat) (hv : Value) (ps : List S_api_Plan) (p : S_api_Plan), ps[g]? = some p → (glP g hv ps)[g]? = some (C_planH hv p) ∧ tiersAt g ps = p.Tiers
  | _, _, [], p, h => by simp at h
  | 0, hv, q :: ps, p, h => by simp at h; subst h; exact ⟨rfl, rfl⟩
  | g + 1, hv, q :: ps, p, h => by
    have := glP_at g hv ps p (by simpa using h)
    exact ⟨by simpa [glP, glQ] using this.1, this.2⟩
theorem glP_set : ∀ (g : Nat) (hv : Value) (ps : List S_api_Plan) (p : S_api_Plan), g < ps.length → (glP g hv ps).set g (C_api_Plan p) = (ps.set g p).map C_api_Plan
  | _, _, [], p, h => by simp at h
  | 0, hv, q :: ps, p, h => rfl
  | g + 1, hv, q :: ps, p, h => by
    have := glP_set g hv ps p (by simpa using h)
    show C_api_Plan q :: (glP g hv ps).set g (C_api_Plan p) = C_api_Plan q :: (ps.set g p).map C_api_Plan
    rw [this]
theorem glP_up : ∀ (g : Nat) (hv : Value) (ps : List S_api_Plan), UpH hv (List.map C_api_Tier (tiersAt g ps)) (glP g hv ps) (ps.map C_api_Plan)
  | _, hv, [] => ⟨by simp [glP, glQ], fun k c el u h => by simp at h⟩
  | 0, hv, p :: ps => ⟨by simp [glP, glQ], fun k c el u h1 h2 => by
    cases k with
    | zero =>
      simp only [List.map_cons, List.getElem?_cons_zero, Option.some.injEq] at h1
      subst h1
      refine ⟨C_planH hv p, ?_⟩
      rcases c with _ | _ | _ | _ | _ | _ | _ | _ | c <;> simp only [C_api_Plan, List.getElem?_cons_succ, List.getElem?_cons_zero, Option.some.injEq, List.getElem?_nil] at h2
      ·subst h2; exact ⟨_, rfl, rfl, .inl rfl⟩
      ·subst h2; exact ⟨_, rfl, rfl, .inl rfl⟩
      ·subst h2; exact ⟨_, rfl, rfl, .inl rfl⟩
      ·subst h2; exact ⟨_, rfl, rfl, .inl rfl⟩
      ·subst h2; exact ⟨_, rfl, rfl, .inr ⟨rfl, rfl⟩⟩
      ·subst h2; exact ⟨_, rfl, rfl, .inl rfl⟩
      ·subst h2; exact ⟨_, rfl, rfl, .inl rfl⟩
      ·subst h2; exact ⟨_, rfl, rfl, .inl rfl⟩
      ·cases h2
    | succ k => exact ⟨el, u, by simpa [glP, glQ] using h1, h2, .inl rfl⟩⟩
  | g + 1, hv, p :: ps => ⟨by simp only [glP, glQ, List.length_cons, List.length_map]; rw [← glP_len g hv ps], fun k c el u h1 h2 => by
    cases k with
    | zero => exact ⟨el, u, by simpa [glP, glQ] using h1, h2, .inl rfl⟩
    | succ k =>
      obtain ⟨e1, u1, q1, q2, q3⟩ := (glP_up g hv ps).2 k c el u (by simpa using h1) h2
      exact ⟨e1, u1, by simpa [glP, glQ] using q1, q2, q3⟩⟩
theorem map_planL (ps : List S_api_Plan) : ∀ el, el ∈ ps.map C_api_Plan → el.length = 8 := fun el h => by obtain ⟨p, _, rfl⟩ := List.mem_map.1 h; rfl
theorem seq_RightCatalog {X : Ctx} {Q : Exit → (Nat → Slot) → Own → Prop} {f : Nat → Slot} {ops : Array Oper} {os : List Oper} {dst : Option Tmp} {ty : TypeId} {pos : String} {af : Array Edge} {ts : Array TypeId} {x : Tmp} {NX : Nat} (bl b2 G : Nat) (s1 : S_gatemake_Stream) (r : (S_api_Catalog × S_gatemake_Stream)) (H : m_gatemake_Stream_RightCatalog s1 = some r) (hX : X.N = NX) (hNX : dstsOK NX ops = true) (hx : f x = .ptr 0 0) (h0 : f 0 = .ptr 0 0) (h2 : f 2 = .ptr 40 0)
    (hK : ∀ hv1 hv2 hv : Value, SeqW Tryz.prog X ops os (updS (frs (anchS [(0, 0), (2, 40)])) dst (.dat (vagg [vval hv1, vval hv2]))) (ows [(0, .box (some bl) 25 [.dat (vlst (List.map C_int r.2.L)), .dat (vint r.2.at_)]), (40, .box (some b2) 29 [.dat vnil, .dat vnil]), (1, .box none 29 [.dat (vval hv1), .dat (vval hv2)]), (10, .rowA hv1 89 2 (List.map C_api_Product r.1.Products)), (11, .rowA hv2 64 8 (glP G hv r.1.Plans)), (12, .rowA hv 92 2 (List.map C_api_Tier (tiersAt G r.1.Plans)))]) Q) :
    SeqW Tryz.prog X ops (⟨dst, .call { callee := .value (.func 52), args := [Operand.tmp x].toArray, argTypes := ts }, ty, pos, af, none⟩ :: os) f (ows [(0, .box (some bl) 25 (List.map .dat (C_gatemake_Stream s1))), (40, .box (some b2) 29 [.dat vnil, .dat vnil])]) Q := by
 refine seqW_inline [.ptr 0 0] [(0, 0), (2, 40)] (by kernel_rfl) Tryz.func52 rfl rfl rfl rfl hX hNX (by simp [evS, hx]) (fun y hy n => by simp at hy; subst hy; exact fun h => by cases h) fun X hN => ?_
 unfold m_gatemake_Stream_RightCatalog at H
 refine awp_seq ?_
 refine awp_plain hN rfl ?_
 refine seq_run2 (stp_alloc 1 tyZ29 rfl) rfl ?_
 refine awp_seq ?_
 refine awp_plain hN rfl ?_
 refine seq_run0 (stp_move (.ptr _ _) rfl) ?_
 obtain ⟨r2, h3, H⟩ := bnd H
 refine seq_run2 (stp_imp (k_gatemake_Stream_RightScopes s1 r2 h3) rfl trivial rfl) rfl ?_
 refine seq_run0 (stp_dat (u' := vagg (C_api_Product (S_api_Product.mk [109, 97, 112, 115] r2.1))) (stp_build [(0, [vstr [109, 97, 112, 115]]), (1, [vlst (List.map C_string r2.1)])] tyZ89 tyP89 rfl ⟨rfl, .inl ⟨_, rfl, rfl, rfl⟩, rfl, rfl, .inl ⟨_, rfl, rfl, rfl⟩, rfl, trivial⟩) rfl) ?_
 refine seq_run0 (stp_dat (u' := vlst (List.map C_string [[111, 114, 100, 101, 114, 115]])) (stp_lit [[_]] tyL61 ⟨rfl, .inl ⟨_, rfl, rfl, rfl⟩, rfl, trivial⟩ rfl rfl) rfl) ?_
 refine seq_run0 (stp_dat (u' := vagg (C_api_Product (S_api_Product.mk [115, 104, 111, 112] ([[111, 114, 100, 101, 114, 115]])))) (stp_build [(0, [vstr [115, 104, 111, 112]]), (1, [vlst (List.map C_string ([[111, 114, 100, 101, 114, 115]]))])] tyZ89 tyP89 rfl ⟨rfl, .inl ⟨_, rfl, rfl, rfl⟩, rfl, rfl, .inl ⟨_, rfl, rfl, rfl⟩, rfl, trivial⟩) rfl) ?_
 refine seq_run2 (t_litR (C := C_api_Product) 8 ([(S_api_Product.mk [109, 97, 112, 115] r2.1), (S_api_Product.mk [115, 104, 111, 112] ([[111, 114, 100, 101, 114, 115]]))] : List S_api_Product) tyL26 ⟨rfl, .inr rfl, rfl, rfl, .inr rfl, rfl, trivial⟩ rfl rfl rfl) rfl ?_
 refine seq_run1 (stp_slot (s' := .comp false [.row 8 2, .dat vnil]) (stp_buildC [(8, some (some (.row 89 2 (List.map C_api_Product [(S_api_Product.mk [109, 97, 112, 115] r2.1), (S_api_Product.mk [115, 104, 111, 112] ([[111, 114, 100, 101, 114, 115]]))]))))] [(0, [.row 8 2])] tyZ29 tyP29 rfl ⟨rfl, .inr (.inl ⟨_, _, _, _, _, rfl, .head _, rfl, rfl⟩), rfl, trivial⟩) rfl) rfl ?_
 refine seq_run2 (stp_alloc 2 tyZ29 rfl) rfl ?_
 refine seq_run2 (stp_storeC tyS29 rfl rfl rfl rfl) rfl ?_
 refine awp_nilrowB 2 1 3 64 8 rfl rfl rfl rfl ?_
 refine awp_ghost 6 92 2 rfl rfl ?_
 refine awp_seq ?_
 refine awp_seq ?_
 refine awp_plain hN rfl ?_
 refine seq_run0 (stp_dat (u' := vlst (List.map C_string [[98, 105, 103], [102, 114, 101, 101], [109, 105, 100], [115, 109, 97, 108, 108]])) (stp_lit [[_], [_], [_], [_]] tyL61 ⟨rfl, .inl ⟨_, rfl, rfl, rfl⟩, rfl, rfl, .inl ⟨_, rfl, rfl, rfl⟩, rfl, rfl, .inl ⟨_, rfl, rfl, rfl⟩, rfl, rfl, .inl ⟨_, rfl, rfl, rfl⟩, rfl, trivial⟩ rfl rfl) rfl) ?_
 refine seq_run0 (t_len tyU61 rfl) ?_
 refine qd rfl ?_
 refine awp_block ?_
 obtain ⟨h9, H⟩ := gif H
 refine awp_forLG (γ := Value) (fun (k7 : Nat) (s : (List S_api_Plan) × (List Int) × Int) (hv : Value) => [(0, .ptr 0 0), (2, .ptr 1 0), (3, .ptr 2 0), (15, .dat (vlst (List.map C_string ([[98, 105, 103], [102, 114, 101, 101], [109, 105, 100], [115, 109, 97, 108, 108]])))), (16, .dat (vint (([[98, 105, 103], [102, 114, 101, 101], [109, 105, 100], [115, 109, 97, 108, 108]]).length : Int))), (17, .dat (vint (k7 : Int)))]) (fun (k7 : Nat) (s : (List S_api_Plan) × (List Int) × Int) (hv : Value) => [(0, .box (some bl) 25 [.dat (vlst (List.map C_int s.2.1)), .dat (vint s.2.2)]), (1, .box none 29 [.dat (vnil), .dat (vnil)]), (2, .box none 29 [.row 8 2, .row 3 s.1.length]), (3, .row 64 8 (glP G hv s.1)), (6, .rowA hv 92 2 (List.map C_api_Tier (tiersAt G s.1))), (8, .row 89 2 (List.map C_api_Product [(S_api_Product.mk [109, 97, 112, 115] r2.1), (S_api_Product.mk [115, 104, 111, 112] ([[111, 114, 100, 101, 114, 115]]))])), (40, .box (some b2) 29 [.dat (vnil), .dat (vnil)])]) (([] : List S_api_Plan), r2.2.L, r2.2.at_) (.slice none 0 0) H ⟨rfl, rfl, rfl, rfl, rfl, rfl, trivial⟩ ⟨rfl, rfl, rfl, rfl, rfl, rfl, rfl, trivial⟩ (fun _ _ _ => rfl) ?_ ?_
 ·rintro ⟨l4, c5, c6⟩ hv H
  replace H : gatemake_Stream_RightCatalog_E1 r2 l4 c5 c6 = some r := H
  unfold gatemake_Stream_RightCatalog_E1 at H
  refine awp_seq ?_
  refine awp_plain hN rfl ?_
  refine seq_run0 (stp_lss rfl rfl) ?_
  refine awp_seq ?_
  refine awp_cond _ rfl (fun h => (lt_t h).elim) (fun h => ?_)
  refine awp_exit ?_
  refine awp_seq ?_
  refine awp_head 2 1 3 11 rfl rfl rfl (glP_len _ _ _).symm rfl fun hv2 => ?_
  refine awp_head 2 0 8 10 rfl rfl rfl rfl rfl fun hv1 => ?_
  refine awp_renA 6 12 rfl rfl ?_
  refine awp_plain hN rfl ?_
  refine seq_run1 (stp_loadA tyS29 rfl rfl rfl) rfl ?_
  refine seq_run2 (stp_storeW tyS29 rfl rfl rfl rfl) rfl ?_
  cases H
  refine awp_less [(2, .ptr 1 0)] [(0, .box (some bl) 25 [.dat (vlst (List.map C_int c5)), .dat (vint c6)]), (40, .box (some b2) 29 [.dat vnil, .dat vnil]), (1, .box none 29 [.dat (vval hv1), .dat (vval hv2)]), (10, .rowA hv1 89 2 (List.map C_api_Product [(S_api_Product.mk [109, 97, 112, 115] r2.1), (S_api_Product.mk [115, 104, 111, 112] ([[111, 114, 100, 101, 114, 115]]))])), (11, .rowA hv2 64 8 (glP G hv l4)), (12, .rowA hv 92 2 (List.map C_api_Tier (tiersAt G l4)))] ⟨rfl, trivial⟩ ⟨rfl, rfl, rfl, rfl, rfl, rfl, trivial⟩ rfl ?_
  refine awp_ret ?_
  exact ⟨trivial, [vagg [vval hv1, vval hv2]], .inl ⟨[vagg [vval hv1, vval hv2]], ⟨⟨_, _, _, [vval hv1, vval hv2], rfl, rfl, rfl, rfl, tyS29⟩, trivial⟩, rfl⟩, ⟨⟨h0, _, _, _, _, _, rfl, rfl⟩, ⟨h2, _, _, _, _, _, rfl, rfl⟩, trivial⟩, hK hv1 hv2 hv⟩
 ·rintro k7 x10 ⟨l4, c5, c6⟩ hv q8 h11 h12 H hq8
  replace H : gatemake_Stream_RightCatalog_L1 k7 x10 l4 c5 c6 = some q8 := H
  unfold gatemake_Stream_RightCatalog_L1 at H
  refine awp_cv ?_
  refine awp_seq ?_
  refine awp_plain hN rfl ?_
  refine seq_run0 (stp_lss rfl rfl) ?_
  refine awp_seq ?_
  refine awp_cond _ rfl (fun h => ?_) (fun h => (lt_f h11 h).elim)
  refine awp_skip ?_
  refine awp_joinE (ι := ((List Int) × Int × (List S_api_Plan)) × Value) (fun i => [(0, .ptr 0 0), (2, .ptr 1 0), (3, .ptr 2 0), (15, .dat (vlst (List.map C_string ([[98, 105, 103], [102, 114, 101, 101], [109, 105, 100], [115, 109, 97, 108, 108]])))), (16, .dat (vint (([[98, 105, 103], [102, 114, 101, 101], [109, 105, 100], [115, 109, 97, 108, 108]]).length : Int))), (17, .dat (vint (k7 : Int)))]) (fun i => [(0, .box (some bl) 25 [.dat (vlst (List.map C_int i.1.1)), .dat (vint i.1.2.1)]), (1, .box none 29 [.dat (vnil), .dat (vnil)]), (2, .box none 29 [.row 8 2, .row 3 i.1.2.2.length]), (3, .row 64 8 (glP G i.2 i.1.2.2)), (6, .rowA i.2 92 2 (List.map C_api_Tier (tiersAt G i.1.2.2))), (8, .row 89 2 (List.map C_api_Product [(S_api_Product.mk [109, 97, 112, 115] r2.1), (S_api_Product.mk [115, 104, 111, 112] ([[111, 114, 100, 101, 114, 115]]))])), (40, .box (some b2) 29 [.dat (vnil), .dat (vnil)])]) (fun i => gatemake_Stream_RightCatalog_J2 i.1.1 i.1.2.1 i.1.2.2 = some q8) (fun i => rfl) ?_ ?_
  ·refine awp_cv ?_
   refine awp_block ?_
   refine awp_seq ?_
   refine awp_plain hN rfl ?_
   refine seq_run0 (t_idx tyE61 (fun _ => rfl) rfl rfl h12) ?_
   refine seq_run0 (stp_loadE1 tyS9 rfl (map_at h12) rfl) ?_
   refine qe rfl ?_
   refine awp_seq ?_
   refine awp_seq ?_
   refine awp_plain hN rfl ?_
   refine seq_run0 (stp_move (.ptr _ _) rfl) ?_
   obtain ⟨r13, h14, H⟩ := bnd H
   refine seq_run2 (stp_imp (k_gatemake_Stream_Flip (S_gatemake_Stream.mk c5 c6) 5 r13 h14) rfl ⟨.inl rfl, trivial⟩ rfl) rfl ?_
   refine awp_cond _ rfl (fun h15 => ?_) (fun h15 => ?_)
   ·replace H := ift h15 H
    refine awp_exit ?_
    show Cv _ _ _ _
    refine cv_in ?_
    exact ⟨((r13.2.L, r13.2.at_, l4), hv), H, ⟨rfl, rfl, rfl, rfl, rfl, rfl, trivial⟩, ⟨rfl, rfl, rfl, rfl, rfl, rfl, rfl, trivial⟩⟩
   ·replace H := iff_ h15 H
    refine awp_skip ?_
    refine awp_seq ?_
    refine awp_plain hN rfl ?_
    refine qd rfl ?_
    refine seq_run0 (stp_move (.ptr _ _) rfl) ?_
    refine seq_run0 (stp_dat (u' := vlst (List.map C_string [[115, 104, 111, 112], [115, 104, 111, 112], [109, 97, 112, 115]])) (stp_lit [[_], [_], [_]] tyL61 ⟨rfl, .inl ⟨_, rfl, rfl, rfl⟩, rfl, rfl, .inl ⟨_, rfl, rfl, rfl⟩, rfl, rfl, .inl ⟨_, rfl, rfl, rfl⟩, rfl, trivial⟩ rfl rfl) rfl) ?_
    obtain ⟨r16, h17, H⟩ := bnd H
    refine seq_run2 (stp_imp (k_gatemake_Stream_Some r13.2 ([[115, 104, 111, 112], [115, 104, 111, 112], [109, 97, 112, 115]]) r16 h17) rfl ⟨.inl rfl, trivial⟩ rfl) rfl ?_
    refine seq_run0 (stp_move (.ptr _ _) rfl) ?_
    refine seq_run0 (stp_dat (u' := vlst (List.map C_int [0, 0, 1000, 3000, 31])) (stp_lit [[_], [_], [_], [_], [_]] tyL22 ⟨rfl, .inl ⟨_, rfl, rfl, rfl⟩, rfl, rfl, .inl ⟨_, rfl, rfl, rfl⟩, rfl, rfl, .inl ⟨_, rfl, rfl, rfl⟩, rfl, rfl, .inl ⟨_, rfl, rfl, rfl⟩, rfl, rfl, .inl ⟨_, rfl, rfl, rfl⟩, rfl, trivial⟩ rfl rfl) rfl) ?_
    obtain ⟨r18, h19, H⟩ := bnd H
    refine seq_run2 (stp_imp (k_gatemake_Stream_Pick r16.2 [0, 0, 1000, 3000, 31] r18 h19) rfl ⟨.inl rfl, trivial⟩ rfl) rfl ?_
    refine seq_run0 (stp_move (.ptr _ _) rfl) ?_
    refine seq_run0 (stp_dat (u' := vlst (List.map C_int [0, 10, 100])) (stp_lit [[_], [_], [_]] tyL22 ⟨rfl, .inl ⟨_, rfl, rfl, rfl⟩, rfl, rfl, .inl ⟨_, rfl, rfl, rfl⟩, rfl, rfl, .inl ⟨_, rfl, rfl, rfl⟩, rfl, trivial⟩ rfl rfl) rfl) ?_
    obtain ⟨r20, h21, H⟩ := bnd H
    refine seq_run2 (stp_imp (k_gatemake_Stream_Pick r18.2 [0, 10, 100] r20 h21) rfl ⟨.inl rfl, trivial⟩ rfl) rfl ?_
    refine seq_run0 (stp_move (.ptr _ _) rfl) ?_
    refine seq_run0 (stp_dat (u' := vlst (List.map C_int [(-1), (-1), 0, 1000])) (stp_lit [[_], [_], [_], [_]] tyL22 ⟨rfl, .inl ⟨_, rfl, rfl, rfl⟩, rfl, rfl, .inl ⟨_, rfl, rfl, rfl⟩, rfl, rfl, .inl ⟨_, rfl, rfl, rfl⟩, rfl, rfl, .inl ⟨_, rfl, rfl, rfl⟩, rfl, trivial⟩ rfl rfl) rfl) ?_
    obtain ⟨r22, h23, H⟩ := bnd H
    refine seq_run2 (stp_imp (k_gatemake_Stream_Pick r20.2 [(-1), (-1), 0, 1000] r22 h23) rfl ⟨.inl rfl, trivial⟩ rfl) rfl ?_
    refine seq_run0 (stp_move (.ptr _ _) rfl) ?_
    refine seq_run0 (stp_dat (u' := vlst (List.map C_int [0, 0, 1, 2])) (stp_lit [[_], [_], [_], [_]] tyL22 ⟨rfl, .inl ⟨_, rfl, rfl, rfl⟩, rfl, rfl, .inl ⟨_, rfl, rfl, rfl⟩, rfl, rfl, .inl ⟨_, rfl, rfl, rfl⟩, rfl, rfl, .inl ⟨_, rfl, rfl, rfl⟩, rfl, trivial⟩ rfl rfl) rfl) ?_
    obtain ⟨r24, h25, H⟩ := bnd H
    refine seq_run2 (stp_imp (k_gatemake_Stream_Pick r22.2 [0, 0, 1, 2] r24 h25) rfl ⟨.inl rfl, trivial⟩ rfl) rfl ?_
    refine seq_run0 (stp_move (.ptr _ _) rfl) ?_
    obtain ⟨r26, h27, H⟩ := bnd H
    refine seq_run2 (stp_imp (k_gatemake_Stream_Flip r24.2 2 r26 h27) rfl ⟨.inl rfl, trivial⟩ rfl) rfl ?_
    refine seq_run0 (stp_dat (u' := vagg [vstr x10, vstr r16.1, vint r18.1, vint r20.1, vnil, vint r22.1, vint r24.1, vbool r26.1]) (stp_build [(0, [vstr x10]), (1, [vstr r16.1]), (2, [vint r18.1]), (3, [vint r20.1]), (5, [vint r22.1]), (6, [vint r24.1]), (7, [vbool r26.1])] tyZ64 tyP64 rfl ⟨rfl, .inl ⟨_, rfl, rfl, rfl⟩, rfl, rfl, .inl ⟨_, rfl, rfl, rfl⟩, rfl, rfl, .inl ⟨_, rfl, rfl, rfl⟩, rfl, rfl, .inl ⟨_, rfl, rfl, rfl⟩, rfl, rfl, .inl ⟨_, rfl, rfl, rfl⟩, rfl, rfl, .inl ⟨_, rfl, rfl, rfl⟩, rfl, rfl, .inl ⟨_, rfl, rfl, rfl⟩, rfl, trivial⟩) rfl) ?_
    refine seq_run2 (stp_alloc 4 tyZ64 rfl) rfl ?_
    refine seq_run2 (stp_storeW tyS64 rfl rfl rfl rfl) rfl ?_
    refine awp_nilrowB 4 4 5 92 2 rfl rfl rfl rfl ?_
    refine awp_seq ?_
    refine awp_plain hN rfl ?_
    refine qe rfl ?_
    refine awp_seq ?_
    refine awp_seq ?_
    refine awp_plain hN rfl ?_
    refine seq_run0 (stp_move (.ptr _ _) rfl) ?_
    refine seq_run0 (stp_dat (u' := vlst (List.map C_int [0, 1, 2, 3])) (stp_lit [[_], [_], [_], [_]] tyL22 ⟨rfl, .inl ⟨_, rfl, rfl, rfl⟩, rfl, rfl, .inl ⟨_, rfl, rfl, rfl⟩, rfl, rfl, .inl ⟨_, rfl, rfl, rfl⟩, rfl, rfl, .inl ⟨_, rfl, rfl, rfl⟩, rfl, trivial⟩ rfl rfl) rfl) ?_
    obtain ⟨r28, h29, H⟩ := bnd H
    refine seq_run2 (stp_imp (k_gatemake_Stream_Pick r26.2 [0, 1, 2, 3] r28 h29) rfl ⟨.inl rfl, trivial⟩ rfl) rfl ?_
    refine qd rfl ?_
    refine awp_block ?_
    obtain ⟨h36, H⟩ := gif H
    refine awp_rng (fun (k34 : Nat) (s : Int × (List S_api_Tier) × (List Int) × Int) => [(0, .ptr 0 0), (2, .ptr 1 0), (3, .ptr 2 0), (6, .ptr 4 0), (7, .dat (vint s.1)), (15, .dat (vlst (List.map C_string ([[98, 105, 103], [102, 114, 101, 101], [109, 105, 100], [115, 109, 97, 108, 108]])))), (16, .dat (vint (([[98, 105, 103], [102, 114, 101, 101], [109, 105, 100], [115, 109, 97, 108, 108]]).length : Int))), (17, .dat (vint (k7 : Int))), (44, .dat (vint r28.1)), (45, .dat (vint (k34 : Int)))]) (fun (k34 : Nat) (s : Int × (List S_api_Tier) × (List Int) × Int) => [(0, .box (some bl) 25 [.dat (vlst (List.map C_int s.2.2.1)), .dat (vint s.2.2.2)]), (1, .box none 29 [.dat (vnil), .dat (vnil)]), (2, .box none 29 [.row 8 2, .row 3 l4.length]), (3, .row 64 8 (glP G hv l4)), (6, .rowA hv 92 2 (List.map C_api_Tier (tiersAt G l4))), (8, .row 89 2 (List.map C_api_Product [(S_api_Product.mk [109, 97, 112, 115] r2.1), (S_api_Product.mk [115, 104, 111, 112] ([[111, 114, 100, 101, 114, 115]]))])), (40, .box (some b2) 29 [.dat (vnil), .dat (vnil)]), (4, .box none 64 [.dat (vstr x10), .dat (vstr r16.1), .dat (vint r18.1), .dat (vint r20.1), .row 5 s.2.1.length, .dat (vint r22.1), .dat (vint r24.1), .dat (vbool r26.1)]), (5, .row 92 2 (List.map C_api_Tier s.2.1))]) (1, ([] : List S_api_Tier), r28.2.L, r28.2.at_) H ⟨rfl, rfl, rfl, rfl, rfl, rfl, rfl, rfl, rfl, rfl, trivial⟩ ⟨rfl, rfl, rfl, rfl, rfl, rfl, rfl, rfl, rfl, trivial⟩ (fun _ _ => rfl) ?_ ?_
    ·rintro ⟨v30, l31, c32, c33⟩ H
     replace H : gatemake_Stream_RightCatalog_E3 l4 x10 r16 r18 r20 r22 r24 r26 v30 l31 c32 c33 = some q8 := H
     unfold gatemake_Stream_RightCatalog_E3 at H
     refine awp_seq ?_
     refine awp_plain hN rfl ?_
     refine seq_run0 (stp_lss rfl rfl) ?_
     refine awp_seq ?_
     refine awp_cond _ rfl (fun h => (lt_tI h).elim) (fun h => ?_)
     refine awp_exit ?_
     refine awp_pick (Nat.beq l4.length G) 4 4 5 6 7 rfl rfl rfl (by rw [List.length_map]) rfl rfl fun hv' hhv => ?_
     refine awp_plain hN rfl ?_
     refine seq_run0 (stp_fldP tyF29_1 rfl) ?_
     refine seq_run1 (stp_load1 tyS27 rfl rfl) rfl ?_
     refine seq_run1 (stp_loadA tyS64 rfl rfl rfl) rfl ?_
     refine seq_run0 (stp_dat (u' := vlst [cond (Nat.beq l4.length G) (C_planH hv' (S_api_Plan.mk x10 r16.1 r18.1 r20.1 l31 r22.1 r24.1 r26.1)) (C_api_Plan (S_api_Plan.mk x10 r16.1 r18.1 r20.1 l31 r22.1 r24.1 r26.1))]) (stp_lit [_] tyL27 ⟨rfl, .inr rfl, rfl, trivial⟩ rfl rfl) (by cases Nat.beq l4.length G <;> rfl)) ?_
     obtain ⟨h37, H⟩ := gif H
     refine seq_run2 (t_appE tyL27 rfl (glP_len _ _ _).symm rfl (by simp) (by cases Nat.beq l4.length G <;> simp [C_planH]) (by rw [glP_len]; exact h37) rfl) rfl ?_
     refine seq_run0 (stp_fldP tyF29_1 rfl) ?_
     refine seq_run4 (stp_storeS tyS27 rfl rfl rfl rfl) rfl rfl ?_
     refine seq_end ?_
     show Cv _ _ _ _
     refine cv_ren (rn [(7, 6)]) [(0, .ptr 0 0), (2, .ptr 1 0), (3, .ptr 2 0), (15, .dat (vlst (List.map C_string ([[98, 105, 103], [102, 114, 101, 101], [109, 105, 100], [115, 109, 97, 108, 108]])))), (16, .dat (vint (([[98, 105, 103], [102, 114, 101, 101], [109, 105, 100], [115, 109, 97, 108, 108]]).length : Int))), (17, .dat (vint (k7 : Int)))] [(0, .box (some bl) 25 [.dat (vlst (List.map C_int c32)), .dat (vint c33)]), (1, .box none 29 [.dat (vnil), .dat (vnil)]), (2, .box none 29 [.row 8 2, .row 3 (l4 ++ [(S_api_Plan.mk x10 r16.1 r18.1 r20.1 l31 r22.1 r24.1 r26.1)]).length]), (3, .row 64 8 (glP G hv' (l4 ++ [(S_api_Plan.mk x10 r16.1 r18.1 r20.1 l31 r22.1 r24.1 r26.1)]))), (7, .rowA hv' 92 2 (List.map C_api_Tier (tiersAt G (l4 ++ [(S_api_Plan.mk x10 r16.1 r18.1 r20.1 l31 r22.1 r24.1 r26.1)])))), (8, .row 89 2 (List.map C_api_Product [(S_api_Product.mk [109, 97, 112, 115] r2.1), (S_api_Product.mk [115, 104, 111, 112] ([[111, 114, 100, 101, 114, 115]]))])), (40, .box (some b2) 29 [.dat (vnil), .dat (vnil)])] ⟨rfl, rfl, rfl, rfl, rfl, rfl, trivial⟩ ⟨rfl, rfl, congrArg (fun n => some (some (AObj.box none 29 [.row 8 2, .row 3 n]))) (by simp [glP_len]), congrArg (fun es => some (some (AObj.row 64 8 es))) (glP_app G hv hv' l4 (S_api_Plan.mk x10 r16.1 r18.1 r20.1 l31 r22.1 r24.1 r26.1) hhv).symm, congrArg (fun es => some (some (AObj.rowA hv' 92 2 es))) (tiersAt_app G l4 (S_api_Plan.mk x10 r16.1 r18.1 r20.1 l31 r22.1 r24.1 r26.1)).symm, rfl, rfl, trivial⟩ rfl rfl ?_
     exact ⟨((c32, c33, (l4 ++ [(S_api_Plan.mk x10 r16.1 r18.1 r20.1 l31 r22.1 r24.1 r26.1)])), hv'), H, ⟨rfl, rfl, rfl, rfl, rfl, rfl, trivial⟩, ⟨rfl, rfl, rfl, rfl, rfl, rfl, rfl, trivial⟩⟩
    ·rintro k34 ⟨v30, l31, c32, c33⟩ q35 h38 H hq35
     replace H : gatemake_Stream_RightCatalog_L3 k34 v30 l31 c32 c33 = some q35 := H
     unfold gatemake_Stream_RightCatalog_L3 at H
     refine awp_cv ?_
     refine awp_seq ?_
     refine awp_plain hN rfl ?_
     refine seq_run0 (stp_lss rfl rfl) ?_
     refine awp_seq ?_
     refine awp_cond _ rfl (fun h => ?_) (fun h => (lt_fI h38 h).elim)
     refine awp_skip ?_
     refine awp_seq ?_
     refine awp_block ?_
     refine awp_seq ?_
     refine awp_draw mixed hN rfl rfl ?_
     refine seq_run0 (stp_fldP tyF64_4 rfl) ?_
     refine seq_run1 (stp_load1 tyS62 rfl rfl) rfl ?_
     refine qd rfl ?_
     refine seq_run0 (stp_move (.ptr _ _) rfl) ?_
     refine seq_run0 (stp_dat (u' := vlst (List.map C_int [0, 100, 500, 1500])) (stp_lit [[_], [_], [_], [_]] tyL22 ⟨rfl, .inl ⟨_, rfl, rfl, rfl⟩, rfl, rfl, .inl ⟨_, rfl, rfl, rfl⟩, rfl, rfl, .inl ⟨_, rfl, rfl, rfl⟩, rfl, rfl, .inl ⟨_, rfl, rfl, rfl⟩, rfl, trivial⟩ rfl rfl) rfl) ?_
     obtain ⟨r39, h40, H⟩ := bnd H
     refine seq_run2 (stp_imp (k_gatemake_Stream_Pick (S_gatemake_Stream.mk c32 c33) [0, 100, 500, 1500] r39 h40) rfl ⟨.inl rfl, trivial⟩ rfl) rfl ?_
     refine seq_run0 (stp_dat (u' := vagg (C_api_Tier (S_api_Tier.mk v30 r39.1))) (stp_build [(0, [vint v30]), (1, [vint r39.1])] tyZ92 tyP92 rfl ⟨rfl, .inl ⟨_, rfl, rfl, rfl⟩, rfl, rfl, .inl ⟨_, rfl, rfl, rfl⟩, rfl, trivial⟩) rfl) ?_
     refine seq_run0 (stp_dat (u' := vlst (List.map C_api_Tier [(S_api_Tier.mk v30 r39.1)])) (stp_lit [_] tyL62 ⟨rfl, .inr rfl, rfl, trivial⟩ rfl rfl) rfl) ?_
     obtain ⟨h41, H⟩ := gif H
     refine seq_run2 (t_app tyL62 (fun _ => rfl) rfl rfl rfl ⟨by simp, by first | (simp; done) | simpa using h41⟩ rfl) rfl ?_
     refine seq_run0 (stp_fldP tyF64_4 rfl) ?_
     refine seq_run4 (stp_storeS tyS62 rfl rfl (by rw [List.length_map]) rfl) rfl rfl ?_
     refine ⟨rfl, ?_⟩
     refine awp_plain hN rfl ?_
     refine qd rfl ?_
     refine seq_run0 (stp_move (.ptr _ _) rfl) ?_
     refine seq_run0 (stp_dat (u' := vlst (List.map C_int [1, 9, 100])) (stp_lit [[_], [_], [_]] tyL22 ⟨rfl, .inl ⟨_, rfl, rfl, rfl⟩, rfl, rfl, .inl ⟨_, rfl, rfl, rfl⟩, rfl, rfl, .inl ⟨_, rfl, rfl, rfl⟩, rfl, trivial⟩ rfl rfl) rfl) ?_
     obtain ⟨r42, h43, H⟩ := bnd H
     refine seq_run2 (stp_imp (k_gatemake_Stream_Pick r39.2 [1, 9, 100] r42 h43) rfl ⟨.inl rfl, trivial⟩ rfl) rfl ?_
     refine seq_run0 (stp_wrap _ rfl rfl (.inl ⟨rfl, rfl⟩)) ?_
     refine qe rfl ?_
     refine awp_plain hN rfl ?_
     refine seq_run0 (stp_add rfl rfl (by omega)) ?_
     refine qd rfl ?_
     refine seq_end ?_
     show Cv _ _ _ _
     refine cv_in ?_
     exact ⟨_, backl H, ⟨rfl, rfl, rfl, rfl, rfl, rfl, rfl, rfl, rfl, rfl, trivial⟩, ⟨rfl, rfl, rfl, rfl, rfl, rfl, rfl, rfl, rfl, trivial⟩⟩
  ·rintro ⟨⟨c44, c45, l46⟩, hv⟩ H
   replace H : gatemake_Stream_RightCatalog_J2 c44 c45 l46 = some q8 := H
   unfold gatemake_Stream_RightCatalog_J2 at H
   refine awp_plain hN rfl ?_
   refine seq_run0 (stp_add rfl rfl (by omega)) ?_
   refine qd rfl ?_
   refine seq_end ?_
   show Cv _ _ _ _
   refine cv_in ?_
   exact ⟨_, hv, backl H, ⟨rfl, rfl, rfl, rfl, rfl, rfl, trivial⟩, ⟨rfl, rfl, rfl, rfl, rfl, rfl, rfl, trivial⟩⟩
theorem glP_tiers (g : Nat) (hv : Value) (ps : List S_api_Plan) (p : S_api_Plan) (t : S_api_Tier) (h : ps[g]? = some p) : (glP g hv ps).set g ((C_planH hv p).set 4 (vlst (List.map C_api_Tier (tiersAt g ps) ++ [C_api_Tier t]))) = List.map C_api_Plan (ps.set g (S_api_Plan.mk p.Key p.Product p.Base p.Free (p.Tiers ++ [t]) p.Limit p.Trial p.Asked)) := by
  rw [← glP_set g hv ps _ (List.getElem?_eq_some_iff.1 h).1, (glP_at g hv ps p h).2]
  congr 1
  simp [C_planH, C_api_Plan]
theorem k_gatemake_Stream_Catalog (s1 : S_gatemake_Stream) (r : (S_api_Catalog × S_gatemake_Stream)) (H : m_gatemake_Stream_Catalog s1 = some r) : Imp Tryz.prog 22 25 (C_gatemake_Stream s1) [] (resOf [vagg (C_api_Catalog r.1)]) (C_gatemake_Stream r.2) := by
 refine imp_of (us := [vagg (C_api_Catalog r.1)]) (cs' := (C_gatemake_Stream r.2)) (by kernel_rfl) Tryz.func22 rfl rfl rfl rfl fun X bl hN => ?_
 unfold m_gatemake_Stream_Catalog at H
 obtain ⟨r2, h3, H⟩ := bnd H
 cases hc : decide ((r2.1.Plans.length : Int) > 0) with
 | false =>
  rw [hc] at H
  refine awp_seq ?_
  refine awp_plain hN rfl ?_
  refine seq_run2 (stp_alloc 1 tyZ29 rfl) rfl ?_
  refine awp_seq ?_
  refine awp_plain hN rfl ?_
  refine seq_run0 (stp_move (.ptr _ _) rfl) ?_
  refine seq_run2 (stp_imp (k_gatemake_Stream_RightCatalog s1 r2 h3) rfl trivial rfl) rfl ?_
  refine seq_run2 (stp_alloc 2 tyZ29 rfl) rfl ?_
  refine seq_run2 (stp_storeW tyS29 rfl rfl rfl rfl) rfl ?_
  refine awp_seq ?_
  refine awp_seq ?_
  refine awp_plain hN rfl ?_
  refine seq_run0 (stp_fldP tyF29_1 rfl) ?_
  refine seq_run1 (stp_load1 tyS27 rfl rfl) rfl ?_
  refine seq_run0 (t_len tyU27 rfl) ?_
  refine seq_run0 (stp_gtr rfl rfl) ?_
  refine qd rfl ?_
  refine seq_split (j := 4) rfl rfl (fun h4 => ?_) (fun h4 => ?_) rfl
  ·have h5 := un1 h4
   rw [hc] at h5; cases h5
  ·have h8 := un2 h4
   refine seq_skip rfl rfl h4 ?_
   refine seq_skip rfl rfl h4 ?_
   refine seq_run0 (stp_pick_f rfl (bFF h8) rfl) ?_
   refine awp_cond false rfl (fun h => by cases h) (fun h => ?_)
   refine awp_skip ?_
   refine awp_seq ?_
   refine awp_plain hN rfl ?_
   refine seq_run1 (stp_loadA tyS29 rfl rfl rfl) rfl ?_
   refine seq_run2 (stp_storeW tyS29 rfl rfl rfl rfl) rfl ?_
   refine awp_ret ?_
   cases H
   exact ⟨trivial, ⟨.inl ⟨_, _, _, C_api_Catalog r2.1, rfl, rfl, rfl, rfl, tyS29⟩, trivial⟩, rfl⟩
 | true =>
  rw [hc] at H
  obtain ⟨r6, h7, H⟩ := bnd H
  cases hf : r6.1 with
  | false =>
   rw [hf] at H
   refine awp_seq ?_
   refine awp_plain hN rfl ?_
   refine seq_run2 (stp_alloc 1 tyZ29 rfl) rfl ?_
   refine awp_seq ?_
   refine awp_plain hN rfl ?_
   refine seq_run0 (stp_move (.ptr _ _) rfl) ?_
   refine seq_run2 (stp_imp (k_gatemake_Stream_RightCatalog s1 r2 h3) rfl trivial rfl) rfl ?_
   refine seq_run2 (stp_alloc 2 tyZ29 rfl) rfl ?_
   refine seq_run2 (stp_storeW tyS29 rfl rfl rfl rfl) rfl ?_
   refine awp_seq ?_
   refine awp_seq ?_
   refine awp_plain hN rfl ?_
   refine seq_run0 (stp_fldP tyF29_1 rfl) ?_
   refine seq_run1 (stp_load1 tyS27 rfl rfl) rfl ?_
   refine seq_run0 (t_len tyU27 rfl) ?_
   refine seq_run0 (stp_gtr rfl rfl) ?_
   refine qd rfl ?_
   refine seq_split (j := 4) rfl rfl (fun h4 => ?_) (fun h4 => ?_) rfl
   ·have h5 := un1 h4
    refine seq_g0 rfl rfl h4 (stp_move (.ptr _ _) rfl) ?_
    refine seq_g2 rfl rfl h4 (stp_imp (k_gatemake_Stream_Flip r2.2 12 r6 h7) rfl ⟨.inl rfl, trivial⟩ rfl) rfl ?_
    refine seq_run0 (stp_pick_t rfl (bTT h5) rfl) ?_
    refine awp_cond r6.1 rfl (fun h => by rw [hf] at h; cases h) (fun h => ?_)
    refine awp_skip ?_
    refine awp_seq ?_
    refine awp_plain hN rfl ?_
    refine seq_run1 (stp_loadA tyS29 rfl rfl rfl) rfl ?_
    refine seq_run2 (stp_storeW tyS29 rfl rfl rfl rfl) rfl ?_
    refine awp_ret ?_
    cases H
    exact ⟨trivial, ⟨.inl ⟨_, _, _, C_api_Catalog r2.1, rfl, rfl, rfl, rfl, tyS29⟩, trivial⟩, rfl⟩
   ·have h8 := un2 h4
    rw [hc] at h8; cases h8
  | true =>
   rw [hf] at H
   replace H : gatemake_Stream_Catalog_P r2.1 r6.2 = some r := H
   unfold gatemake_Stream_Catalog_P at H
   obtain ⟨r13, h14, H⟩ := bnd H
   obtain ⟨x15, h16, H⟩ := bnd H
   refine awp_seq ?_
   refine awp_plain hN rfl ?_
   refine seq_run2 (stp_alloc 40 tyZ29 rfl) rfl ?_
   refine awp_anch 40 rfl fun b2 => ?_
   refine awp_less [(0, .ptr 0 0), (2, .ptr 40 0)] [(0, .box (some bl) 25 (List.map .dat (C_gatemake_Stream s1))), (40, .box (some b2) 29 [.dat vnil, .dat vnil])] ⟨rfl, rfl, trivial⟩ ⟨rfl, rfl, trivial⟩ rfl ?_
   refine awp_seq ?_
   refine awp_plainW hN ?_
   refine seqW_run0 hN rfl (stp_move (.ptr _ _) rfl) ?_
   refine seq_RightCatalog bl b2 r13.1.toNat s1 r2 h3 hN rfl rfl rfl rfl fun hv1 hv2 hv => ?_
   refine seqW_of hN rfl (lg := []) ?_
   refine seq_run2 (stp_alloc 3 tyZ29 rfl) rfl ?_
   refine seq_run2 (stp_storeW tyS29 rfl rfl rfl rfl) rfl ?_
   refine awp_thaw 3 1 11 21 rfl rfl rfl rfl ?_
   refine awp_thaw 3 0 10 20 rfl rfl rfl rfl ?_
   refine awp_joinE (ι := S_api_Catalog × S_gatemake_Stream) (fun i => [(2, .ptr 40 0), (3, .ptr 3 0)]) (fun i => [(0, .box (some bl) 25 (List.map .dat (C_gatemake_Stream i.2))), (40, .box (some b2) 29 [.dat vnil, .dat vnil]), (3, .box none 29 [.row 20 i.1.Products.length, .row 21 i.1.Plans.length]), (20, .row 89 2 (List.map C_api_Product i.1.Products)), (21, .row 64 8 (List.map C_api_Plan i.1.Plans))]) (fun i => some i = some r) (fun i => rfl) ?_ ?_
   ·skip
    refine awp_seq ?_
    refine awp_plain hN rfl ?_
    refine seq_run0 (stp_fldP tyF29_1 rfl) ?_
    refine seq_run1 (stp_load1 tyS27 rfl rfl) rfl ?_
    refine seq_run1 (stp_dat (stp_len_row tyU27 rfl rfl) (by rw [glP_len])) rfl ?_
    refine seq_run0 (stp_gtr rfl rfl) ?_
    refine qd rfl ?_
    refine seq_split (j := 4) rfl rfl (fun h4 => ?_) (fun h4 => by have h8 := un2 h4; rw [hc] at h8; cases h8) rfl
    have h5 := un1 h4
    refine seq_g0 rfl rfl h4 (stp_move (.ptr _ _) rfl) ?_
    refine seq_g2 rfl rfl h4 (stp_imp (k_gatemake_Stream_Flip r2.2 12 r6 h7) rfl ⟨.inl rfl, trivial⟩ rfl) rfl ?_
    refine seq_run0 (stp_pick_t rfl (bTT h5) rfl) ?_
    refine awp_cond r6.1 rfl (fun h12 => ?_) (fun h12 => by rw [hf] at h12; cases h12)
    refine awp_seq ?_
    refine awp_draw mixed hN rfl rfl ?_
    refine seq_run0 (stp_fldP tyF29_1 rfl) ?_
    refine seq_run1 (stp_load1 tyS27 rfl rfl) rfl ?_
    refine seq_run0 (stp_move (.ptr _ _) rfl) ?_
    refine seq_run0 (stp_fldP tyF29_1 rfl) ?_
    refine seq_run1 (stp_load1 tyS27 rfl rfl) rfl ?_
    refine seq_run1 (stp_dat (stp_len_row tyU27 rfl rfl) (by rw [glP_len])) rfl ?_
    refine seq_run2 (stp_imp (k_gatemake_Stream_Next r6.2 (r2.1.Plans.length : Int) r13 h14) rfl ⟨.inl rfl, trivial⟩ rfl) rfl ?_
    refine seq_run1 (stp_idxRI tyE27 rfl rfl rfl (by rw [glP_len]; exact (at_some h16).1)) rfl ?_
    refine seq_run0 (stp_assign (.rptr _ _ _ _ _) rfl) ?_
    refine ⟨rfl, ?_⟩
    refine awp_seq ?_
    refine awp_plain hN rfl ?_
    refine seq_run0 (stp_move (.ptr _ _) rfl) ?_
    obtain ⟨r17, h18, H⟩ := bnd H
    refine seq_run2 (stp_imp (k_gatemake_Stream_Next r13.2 6 r17 h18) rfl ⟨.inl rfl, trivial⟩ rfl) rfl ?_
    refine awp_block ?_
    refine awp_seq ?_
    refine awp_plain hN rfl ?_
    refine seq_run0 (stp_eql rfl rfl) ?_
    refine qe rfl ?_
    refine awp_cond _ rfl (fun h30 => ?_) (fun h30 => ?_)
    ·replace H := ift h30 H
     refine awp_frzG 21 12 (List.map C_api_Plan r2.1.Plans) rfl rfl (glP_up _ _ _) (map_planL _) ?_
     refine awp_plain hN rfl ?_
     refine seq_run0 (stp_move (.rptr _ _ _ _ _) rfl) ?_
     refine seq_run0 (stp_move (.ptr _ _) rfl) ?_
     refine seq_run0 (stp_dat (u' := vlst (List.map C_string [[], [65], [98, 105, 103]])) (stp_lit [[_], [_], [_]] tyL61 ⟨rfl, .inl ⟨_, rfl, rfl, rfl⟩, rfl, rfl, .inl ⟨_, rfl, rfl, rfl⟩, rfl, rfl, .inl ⟨_, rfl, rfl, rfl⟩, rfl, trivial⟩ rfl rfl) rfl) ?_
     obtain ⟨r20, h21, H⟩ := bnd H
     refine seq_run2 (stp_imp (k_gatemake_Stream_Some r17.2 ([[], [65], [98, 105, 103]]) r20 h21) rfl ⟨.inl rfl, trivial⟩ rfl) rfl ?_
     refine seq_run0 (stp_nilR rfl) ?_
     refine seq_run0 (stp_fldR tyF64_0 rfl) ?_
     refine seq_run2 (t_storeR (S_api_Plan.mk r20.1 x15.Product x15.Base x15.Free x15.Tiers x15.Limit x15.Trial x15.Asked) tyS9 rfl rfl rfl (glP_len _ _ _) (at_some h16).2 rfl rfl) rfl ?_
     exact ⟨((S_api_Catalog.mk r2.1.Products (r2.1.Plans.set r13.1.toNat (S_api_Plan.mk r20.1 x15.Product x15.Base x15.Free x15.Tiers x15.Limit x15.Trial x15.Asked))), r20.2), H, ⟨rfl, rfl, trivial⟩, ⟨rfl, rfl, (by refine Eq.trans (b := some (some (AObj.box none 29 [.row 20 (List.map C_api_Product r2.1.Products).length, .row 21 (glP r13.1.toNat hv r2.1.Plans).length]))) rfl (by simp [glP_len])), rfl, rfl, trivial⟩⟩
    ·replace H := iff_ h30 H
     refine awp_seq ?_
     refine awp_plain hN rfl ?_
     refine seq_run0 (stp_eql rfl rfl) ?_
     refine qe rfl ?_
     refine awp_cond _ rfl (fun h31 => ?_) (fun h31 => ?_)
     ·replace H := ift h31 H
      refine awp_frzG 21 12 (List.map C_api_Plan r2.1.Plans) rfl rfl (glP_up _ _ _) (map_planL _) ?_
      refine awp_plain hN rfl ?_
      refine seq_run0 (stp_move (.rptr _ _ _ _ _) rfl) ?_
      refine seq_run0 (stp_move (.ptr _ _) rfl) ?_
      refine seq_run0 (stp_dat (u' := vlst (List.map C_string [[110, 111, 110, 101], []])) (stp_lit [[_], [_]] tyL61 ⟨rfl, .inl ⟨_, rfl, rfl, rfl⟩, rfl, rfl, .inl ⟨_, rfl, rfl, rfl⟩, rfl, trivial⟩ rfl rfl) rfl) ?_
      obtain ⟨r20, h21, H⟩ := bnd H
      refine seq_run2 (stp_imp (k_gatemake_Stream_Some r17.2 ([[110, 111, 110, 101], []]) r20 h21) rfl ⟨.inl rfl, trivial⟩ rfl) rfl ?_
      refine seq_run0 (stp_nilR rfl) ?_
      refine seq_run0 (stp_fldR tyF64_1 rfl) ?_
      refine seq_run2 (t_storeR (S_api_Plan.mk x15.Key r20.1 x15.Base x15.Free x15.Tiers x15.Limit x15.Trial x15.Asked) tyS9 rfl rfl rfl (glP_len _ _ _) (at_some h16).2 rfl rfl) rfl ?_
      exact ⟨((S_api_Catalog.mk r2.1.Products (r2.1.Plans.set r13.1.toNat (S_api_Plan.mk x15.Key r20.1 x15.Base x15.Free x15.Tiers x15.Limit x15.Trial x15.Asked))), r20.2), H, ⟨rfl, rfl, trivial⟩, ⟨rfl, rfl, (by refine Eq.trans (b := some (some (AObj.box none 29 [.row 20 (List.map C_api_Product r2.1.Products).length, .row 21 (glP r13.1.toNat hv r2.1.Plans).length]))) rfl (by simp [glP_len])), rfl, rfl, trivial⟩⟩
     ·replace H := iff_ h31 H
      refine awp_seq ?_
      refine awp_plain hN rfl ?_
      refine seq_run0 (stp_eql rfl rfl) ?_
      refine qe rfl ?_
      refine awp_cond _ rfl (fun h32 => ?_) (fun h32 => ?_)
      ·replace H := ift h32 H
       refine awp_frzG 21 12 (List.map C_api_Plan r2.1.Plans) rfl rfl (glP_up _ _ _) (map_planL _) ?_
       refine awp_plain hN rfl ?_
       refine seq_run0 (stp_move (.rptr _ _ _ _ _) rfl) ?_
       refine seq_run0 (stp_move (.rptr _ _ _ _ _) rfl) ?_
       refine seq_run0 (stp_move (.ptr _ _) rfl) ?_
       obtain ⟨r20, h21, H⟩ := bnd H
       refine seq_run2 (stp_imp (k_gatemake_Stream_Odd r17.2 0 1000 r20 h21) rfl ⟨.inl rfl, .inl rfl, trivial⟩ rfl) rfl ?_
       refine seq_run0 (stp_move (.ptr _ _) rfl) ?_
       obtain ⟨r22, h23, H⟩ := bnd H
       refine seq_run2 (stp_imp (k_gatemake_Stream_Odd r20.2 0 1000 r22 h23) rfl ⟨.inl rfl, .inl rfl, trivial⟩ rfl) rfl ?_
       refine seq_run0 (stp_nilR rfl) ?_
       refine seq_run0 (stp_fldR tyF64_2 rfl) ?_
       refine seq_run2 (t_storeR (S_api_Plan.mk x15.Key x15.Product r20.1 x15.Free x15.Tiers x15.Limit x15.Trial x15.Asked) tyS3 rfl rfl rfl (glP_len _ _ _) (at_some h16).2 rfl rfl) rfl ?_
       refine seq_run0 (stp_nilR rfl) ?_
       refine seq_run0 (stp_fldR tyF64_3 rfl) ?_
       refine seq_run2 (t_storeR (S_api_Plan.mk x15.Key x15.Product r20.1 r22.1 x15.Tiers x15.Limit x15.Trial x15.Asked) tyS3 rfl rfl rfl (by simp [glP_len]) (set_at (at_some h16).2) rfl rfl) rfl ?_
       exact ⟨((S_api_Catalog.mk r2.1.Products (r2.1.Plans.set r13.1.toNat (S_api_Plan.mk x15.Key x15.Product r20.1 r22.1 x15.Tiers x15.Limit x15.Trial x15.Asked))), r22.2), H, ⟨rfl, rfl, trivial⟩, ⟨rfl, rfl, (by refine Eq.trans (b := some (some (AObj.box none 29 [.row 20 (List.map C_api_Product r2.1.Products).length, .row 21 (glP r13.1.toNat hv r2.1.Plans).length]))) rfl (by simp [glP_len])), rfl, congrArg (fun l => some (some (AObj.row 64 8 (List.map C_api_Plan l)))) (by simp), trivial⟩⟩
      ·replace H := iff_ h32 H
       refine awp_seq ?_
       refine awp_plain hN rfl ?_
       refine seq_run0 (stp_eql rfl rfl) ?_
       refine qe rfl ?_
       refine awp_cond _ rfl (fun h33 => ?_) (fun h33 => ?_)
       ·replace H := ift h33 H
        refine awp_draw mixed hN rfl rfl ?_
        refine seq_run0 (stp_move (.rptr _ _ _ _ _) rfl) ?_
        refine seq_run0 (stp_move (.rptr _ _ _ _ _) rfl) ?_
        refine seq_run0 (stp_nilR rfl) ?_
        refine seq_run0 (stp_fldR tyF64_4 rfl) ?_
        refine seq_run1 (stp_loadR1 tyS62 rfl rfl (glP_at _ _ _ _ (at_some h16).2).1 rfl) rfl ?_
        refine seq_run0 (stp_move (.ptr _ _) rfl) ?_
        obtain ⟨r20, h21, H⟩ := bnd H
        refine seq_run2 (stp_imp (k_gatemake_Stream_Odd r17.2 1 100 r20 h21) rfl ⟨.inl rfl, .inl rfl, trivial⟩ rfl) rfl ?_
        refine seq_run0 (stp_move (.ptr _ _) rfl) ?_
        obtain ⟨r22, h23, H⟩ := bnd H
        refine seq_run2 (stp_imp (k_gatemake_Stream_Odd r20.2 0 1000000 r22 h23) rfl ⟨.inl rfl, .inl rfl, trivial⟩ rfl) rfl ?_
        refine seq_run0 (stp_dat (u' := vagg (C_api_Tier (S_api_Tier.mk r20.1 r22.1))) (stp_build [(0, [vint r20.1]), (1, [vint r22.1])] tyZ92 tyP92 rfl ⟨rfl, .inl ⟨_, rfl, rfl, rfl⟩, rfl, rfl, .inl ⟨_, rfl, rfl, rfl⟩, rfl, trivial⟩) rfl) ?_
        refine seq_run0 (stp_dat (u' := vlst [C_api_Tier (S_api_Tier.mk r20.1 r22.1)]) (stp_lit [_] tyL62 ⟨rfl, .inr rfl, rfl, trivial⟩ rfl rfl) rfl) ?_
        obtain ⟨h24, H⟩ := gif H
        refine seq_run5 (t_appH 12 22 70 tyL62 rfl rfl (fun h => by cases h) (fun h => by cases h) (by simp) (fun el h => by simp at h; subst h; rfl) (by rw [List.length_map, (glP_at _ hv _ _ (at_some h16).2).2]; exact h24) rfl rfl) rfl rfl ?_
        refine seq_run0 (stp_nilR rfl) ?_
        refine seq_run0 (stp_fldR tyF64_4 rfl) ?_
        refine seq_run3 (stp_storeF tyS62 rfl rfl rfl rfl (glP_at _ _ _ _ (at_some h16).2).1 rfl rfl) rfl rfl ?_
        refine ⟨rfl, ?_⟩
        exact ⟨((S_api_Catalog.mk r2.1.Products (r2.1.Plans.set r13.1.toNat (S_api_Plan.mk x15.Key x15.Product x15.Base x15.Free (x15.Tiers ++ [(S_api_Tier.mk r20.1 r22.1)]) x15.Limit x15.Trial x15.Asked))), r22.2), H, ⟨rfl, rfl, trivial⟩, ⟨rfl, rfl, (by refine Eq.trans (b := some (some (AObj.box none 29 [.row 20 (List.map C_api_Product r2.1.Products).length, .row 21 (glP r13.1.toNat hv r2.1.Plans).length]))) rfl (by simp [glP_len])), rfl, congrArg (fun es => some (some (AObj.row 64 8 es))) (glP_tiers r13.1.toNat hv r2.1.Plans x15 (S_api_Tier.mk r20.1 r22.1) (at_some h16).2), trivial⟩⟩
       ·replace H := iff_ h33 H
        refine awp_seq ?_
        refine awp_plain hN rfl ?_
        refine seq_run0 (stp_eql rfl rfl) ?_
        refine qe rfl ?_
        refine awp_cond _ rfl (fun h34 => ?_) (fun h34 => ?_)
        ·replace H := ift h34 H
         refine awp_frzG 21 12 (List.map C_api_Plan r2.1.Plans) rfl rfl (glP_up _ _ _) (map_planL _) ?_
         refine awp_plain hN rfl ?_
         refine seq_run0 (stp_move (.rptr _ _ _ _ _) rfl) ?_
         refine seq_run0 (stp_move (.rptr _ _ _ _ _) rfl) ?_
         refine seq_run0 (stp_move (.ptr _ _) rfl) ?_
         obtain ⟨r20, h21, H⟩ := bnd H
         refine seq_run2 (stp_imp (k_gatemake_Stream_Odd r17.2 (-1) 100 r20 h21) rfl ⟨.inl rfl, .inl rfl, trivial⟩ rfl) rfl ?_
         refine seq_run0 (stp_move (.ptr _ _) rfl) ?_
         obtain ⟨r22, h23, H⟩ := bnd H
         refine seq_run2 (stp_imp (k_gatemake_Stream_Odd r20.2 0 132 r22 h23) rfl ⟨.inl rfl, .inl rfl, trivial⟩ rfl) rfl ?_
         refine seq_run0 (stp_nilR rfl) ?_
         refine seq_run0 (stp_fldR tyF64_5 rfl) ?_
         refine seq_run2 (t_storeR (S_api_Plan.mk x15.Key x15.Product x15.Base x15.Free x15.Tiers r20.1 x15.Trial x15.Asked) tyS3 rfl rfl rfl (glP_len _ _ _) (at_some h16).2 rfl rfl) rfl ?_
         refine seq_run0 (stp_nilR rfl) ?_
         refine seq_run0 (stp_fldR tyF64_6 rfl) ?_
         refine seq_run2 (t_storeR (S_api_Plan.mk x15.Key x15.Product x15.Base x15.Free x15.Tiers r20.1 r22.1 x15.Asked) tyS3 rfl rfl rfl (by simp [glP_len]) (set_at (at_some h16).2) rfl rfl) rfl ?_
         exact ⟨((S_api_Catalog.mk r2.1.Products (r2.1.Plans.set r13.1.toNat (S_api_Plan.mk x15.Key x15.Product x15.Base x15.Free x15.Tiers r20.1 r22.1 x15.Asked))), r22.2), H, ⟨rfl, rfl, trivial⟩, ⟨rfl, rfl, (by refine Eq.trans (b := some (some (AObj.box none 29 [.row 20 (List.map C_api_Product r2.1.Products).length, .row 21 (glP r13.1.toNat hv r2.1.Plans).length]))) rfl (by simp [glP_len])), rfl, congrArg (fun l => some (some (AObj.row 64 8 (List.map C_api_Plan l)))) (by simp), trivial⟩⟩
        ·replace H := iff_ h34 H
         refine awp_frzG 21 12 (List.map C_api_Plan r2.1.Plans) rfl rfl (glP_up _ _ _) (map_planL _) ?_
         refine awp_draw mixed hN rfl rfl ?_
         refine seq_run0 (stp_fldP tyF29_0 rfl) ?_
         refine seq_run1 (stp_load1 tyS26 rfl rfl) rfl ?_
         refine seq_run0 (stp_move (.ptr _ _) rfl) ?_
         refine seq_run0 (stp_dat (u' := vlst (List.map C_string [[122, 122], [115, 104, 111, 112], []])) (stp_lit [[_], [_], [_]] tyL61 ⟨rfl, .inl ⟨_, rfl, rfl, rfl⟩, rfl, rfl, .inl ⟨_, rfl, rfl, rfl⟩, rfl, rfl, .inl ⟨_, rfl, rfl, rfl⟩, rfl, trivial⟩ rfl rfl) rfl) ?_
         obtain ⟨r20, h21, H⟩ := bnd H
         refine seq_run2 (stp_imp (k_gatemake_Stream_Some r17.2 ([[122, 122], [115, 104, 111, 112], []]) r20 h21) rfl ⟨.inl rfl, trivial⟩ rfl) rfl ?_
         refine seq_run0 (stp_move (.ptr _ _) rfl) ?_
         obtain ⟨r22, h23, H⟩ := bnd H
         refine seq_run2 (stp_imp (k_gatemake_Stream_Scopes r20.2 r22 h23) rfl trivial rfl) rfl ?_
         refine seq_run0 (stp_dat (u' := vagg (C_api_Product (S_api_Product.mk r20.1 r22.1))) (stp_build [(0, [vstr r20.1]), (1, [vlst (List.map C_string r22.1)])] tyZ89 tyP89 rfl ⟨rfl, .inl ⟨_, rfl, rfl, rfl⟩, rfl, rfl, .inl ⟨_, rfl, rfl, rfl⟩, rfl, trivial⟩) rfl) ?_
         refine seq_run0 (stp_dat (u' := vlst (List.map C_api_Product [(S_api_Product.mk r20.1 r22.1)])) (stp_lit [_] tyL26 ⟨rfl, .inr rfl, rfl, trivial⟩ rfl rfl) rfl) ?_
         obtain ⟨h24, H⟩ := gif H
         refine seq_run2 (t_app tyL26 (fun _ => rfl) rfl (by simp) rfl ⟨by simp, by first | (simp; done) | simpa using h24⟩ rfl) rfl ?_
         refine seq_run0 (stp_fldP tyF29_0 rfl) ?_
         refine seq_run4 (stp_storeS tyS26 rfl rfl (by rw [List.length_map]) rfl) rfl rfl ?_
         refine ⟨rfl, ?_⟩
         exact ⟨((S_api_Catalog.mk (r2.1.Products ++ [(S_api_Product.mk r20.1 r22.1)]) r2.1.Plans), r22.2), H, ⟨rfl, rfl, trivial⟩, ⟨rfl, rfl, (by refine Eq.trans (b := some (some (AObj.box none 29 [.row 20 (r2.1.Products ++ [(S_api_Product.mk r20.1 r22.1)]).length, .row 21 (glP r13.1.toNat hv r2.1.Plans).length]))) rfl (by simp [glP_len])), rfl, rfl, trivial⟩⟩
   ·rintro i H
    refine awp_seq ?_
    refine awp_frzC 3 0 20 rfl rfl rfl (by rw [List.length_map]) ?_
    refine awp_frzC 3 1 21 rfl rfl rfl (by rw [List.length_map]) ?_
    refine awp_plain hN rfl ?_
    refine seq_run1 (stp_loadA tyS29 rfl rfl rfl) rfl ?_
    refine seq_run2 (stp_storeW tyS29 rfl rfl rfl rfl) rfl ?_
    refine awp_ret ?_
    cases H
    exact ⟨trivial, ⟨.inl ⟨_, _, _, C_api_Catalog r.1, rfl, rfl, rfl, rfl, tyS29⟩, trivial⟩, rfl⟩
theorem kr_gatemake_Stream_RightApps (s1 : S_gatemake_Stream) (r : ((List S_api_App) × S_gatemake_Stream)) (H : m_gatemake_Stream_RightApps s1 = some r) : FnG Tryz.prog 54 [.ptr 0 0] [(0, .box (some 0) 25 (List.map .dat (C_gatemake_Stream s1)))] (.row 2 r.1.length) [(0, .box (some 0) 25 (List.map .dat (C_gatemake_Stream r.2))), (2, .row 60 2 (List.map C_api_App r.1))] := by
 refine fnG_of (by kernel_rfl) Tryz.func54 rfl rfl rfl rfl fun X A hN => ?_
 unfold m_gatemake_Stream_RightApps at H
 refine awp_seq ?_
 refine awp_plain hN rfl ?_
 refine qe rfl ?_
 refine awp_seq ?_
 refine awp_plain hN rfl ?_
 refine seq_run0 (stp_dat (u' := vagg (C_api_App (S_api_App.mk [97, 112, 112, 49] [97, 110, 110]))) (stp_build [(0, [vstr [97, 112, 112, 49]]), (1, [vstr [97, 110, 110]])] tyZ60 tyP60 rfl ⟨rfl, .inl ⟨_, rfl, rfl, rfl⟩, rfl, rfl, .inl ⟨_, rfl, rfl, rfl⟩, rfl, trivial⟩) rfl) ?_
 refine seq_run0 (stp_move (.ptr _ _) rfl) ?_
 refine seq_run0 (stp_dat (u' := vlst (List.map C_string [[97, 110, 110], [98, 111, 98]])) (stp_lit [[_], [_]] tyL61 ⟨rfl, .inl ⟨_, rfl, rfl, rfl⟩, rfl, rfl, .inl ⟨_, rfl, rfl, rfl⟩, rfl, trivial⟩ rfl rfl) rfl) ?_
 obtain ⟨r2, h3, H⟩ := bnd H
 refine seq_run2 (stp_imp (k_gatemake_Stream_Some s1 ([[97, 110, 110], [98, 111, 98]]) r2 h3) rfl ⟨.inl rfl, trivial⟩ rfl) rfl ?_
 refine seq_run0 (stp_dat (u' := vagg (C_api_App (S_api_App.mk [97, 112, 112, 50] r2.1))) (stp_build [(0, [vstr [97, 112, 112, 50]]), (1, [vstr r2.1])] tyZ60 tyP60 rfl ⟨rfl, .inl ⟨_, rfl, rfl, rfl⟩, rfl, rfl, .inl ⟨_, rfl, rfl, rfl⟩, rfl, trivial⟩) rfl) ?_
 refine seq_run0 (stp_dat (u' := vagg (C_api_App (S_api_App.mk [97, 112, 112, 51] [98, 111, 98]))) (stp_build [(0, [vstr [97, 112, 112, 51]]), (1, [vstr [98, 111, 98]])] tyZ60 tyP60 rfl ⟨rfl, .inl ⟨_, rfl, rfl, rfl⟩, rfl, rfl, .inl ⟨_, rfl, rfl, rfl⟩, rfl, trivial⟩) rfl) ?_
 refine seq_run2 (t_litR (C := C_api_App) 1 ([(S_api_App.mk [97, 112, 112, 49] [97, 110, 110]), (S_api_App.mk [97, 112, 112, 50] r2.1), (S_api_App.mk [97, 112, 112, 51] [98, 111, 98])] : (List S_api_App)) tyL30 ⟨rfl, .inr rfl, rfl, rfl, .inr rfl, rfl, rfl, .inr rfl, rfl, trivial⟩ rfl rfl rfl) rfl ?_
 refine seq_run0 (stp_assign (.row _ _) rfl) ?_
 refine awp_seq ?_
 refine awp_plain hN rfl ?_
 refine seq_run0 (stp_move (.row _ _) rfl) ?_
 refine seq_run0 (stp_move (.ptr _ _) rfl) ?_
 refine seq_run0 (stp_dat (u' := vlst (List.map C_int [1, 2, 3, 3])) (stp_lit [[_], [_], [_], [_]] tyL22 ⟨rfl, .inl ⟨_, rfl, rfl, rfl⟩, rfl, rfl, .inl ⟨_, rfl, rfl, rfl⟩, rfl, rfl, .inl ⟨_, rfl, rfl, rfl⟩, rfl, rfl, .inl ⟨_, rfl, rfl, rfl⟩, rfl, trivial⟩ rfl rfl) rfl) ?_
 obtain ⟨r4, h5, H⟩ := bnd H
 refine seq_run2 (stp_imp (k_gatemake_Stream_Pick r2.2 [1, 2, 3, 3] r4 h5) rfl ⟨.inl rfl, trivial⟩ rfl) rfl ?_
 obtain ⟨h6, H⟩ := gif H
 refine seq_run3 (t_cut (C := C_api_App) 2 tyE30 rfl rfl rfl h6) rfl rfl ?_
 refine seq_run0 (stp_assign (.row _ _) rfl) ?_
 refine awp_ret ?_
 cases H
 exact ⟨trivial, [(2, .row 2 _)], ⟨rfl, trivial⟩, ⟨rfl, rfl, trivial⟩, rfl, .inr (.inl ⟨2, rfl, congrArg (Slot.row 2) (by first | exact cut_len (by assumption) | (simp <;> omega))⟩)⟩
theorem k_gatemake_Stream_Apps (s1 : S_gatemake_Stream) (r : ((List S_api_App) × S_gatemake_Stream)) (H : m_gatemake_Stream_Apps s1 = some r) : Imp Tryz.prog 23 25 (C_gatemake_Stream s1) [] (resOf [vlst (List.map C_api_App r.1)]) (C_gatemake_Stream r.2) := by
 refine imp_of (us := [vlst (List.map C_api_App r.1)]) (cs' := (C_gatemake_Stream r.2)) (by kernel_rfl) Tryz.func23 rfl rfl rfl rfl fun X bl hN => ?_
 unfold m_gatemake_Stream_Apps at H
 refine awp_seq ?_
 refine awp_plain hN rfl ?_
 refine qe rfl ?_
 refine awp_seq ?_
 refine awp_plain hN rfl ?_
 refine seq_run0 (stp_move (.ptr _ _) rfl) ?_
 obtain ⟨r2, h3, H⟩ := bnd H
 refine seq_callG (rn [(0, 0), (2, 1)]) [(0, _, _, some _)] [(2, _)] (kr_gatemake_Stream_RightApps s1 r2 h3) ⟨rfl, rfl, trivial⟩ ⟨.inl (.inl rfl), trivial⟩ ⟨⟨⟨rfl, rfl⟩, trivial⟩, trivial⟩ rfl ?_
 refine seq_run0 (stp_assign (.row _ _) rfl) ?_
 refine awp_joinE (ι := (List S_api_App) × (List Int) × Int) (fun i => [(3, .row 1 i.1.length)]) (fun i => [(0, .box (some bl) 25 [.dat (vlst (List.map C_int i.2.1)), .dat (vint i.2.2)]), (1, .row 60 2 (List.map C_api_App i.1))]) (fun i => gatemake_Stream_Apps_J1 i.1 i.2.1 i.2.2 = some r) (fun i => rfl) ?_ ?_
 ·skip
  refine awp_seq ?_
  refine awp_plain hN rfl ?_
  refine seq_run0 (stp_move (.ptr _ _) rfl) ?_
  obtain ⟨r4, h5, H⟩ := bnd H
  refine seq_run2 (stp_imp (k_gatemake_Stream_Flip r2.2 20 r4 h5) rfl ⟨.inl rfl, trivial⟩ rfl) rfl ?_
  refine awp_cond _ rfl (fun h6 => ?_) (fun h6 => ?_)
  ·replace H := ift h6 H
   refine awp_plain hN rfl ?_
   refine seq_run0 (stp_move (.row _ _) rfl) ?_
   refine seq_run0 (stp_move (.ptr _ _) rfl) ?_
   refine seq_run0 (stp_dat (u' := vlst (List.map C_string [[], [97, 112, 112, 49], [122, 122]])) (stp_lit [[_], [_], [_]] tyL61 ⟨rfl, .inl ⟨_, rfl, rfl, rfl⟩, rfl, rfl, .inl ⟨_, rfl, rfl, rfl⟩, rfl, rfl, .inl ⟨_, rfl, rfl, rfl⟩, rfl, trivial⟩ rfl rfl) rfl) ?_
   obtain ⟨r7, h8, H⟩ := bnd H
   refine seq_run2 (stp_imp (k_gatemake_Stream_Some r4.2 ([[], [97, 112, 112, 49], [122, 122]]) r7 h8) rfl ⟨.inl rfl, trivial⟩ rfl) rfl ?_
   refine seq_run0 (stp_move (.ptr _ _) rfl) ?_
   refine seq_run0 (stp_dat (u' := vlst (List.map C_string [[97, 110, 110], []])) (stp_lit [[_], [_]] tyL61 ⟨rfl, .inl ⟨_, rfl, rfl, rfl⟩, rfl, rfl, .inl ⟨_, rfl, rfl, rfl⟩, rfl, trivial⟩ rfl rfl) rfl) ?_
   obtain ⟨r9, h10, H⟩ := bnd H
   refine seq_run2 (stp_imp (k_gatemake_Stream_Some r7.2 ([[97, 110, 110], []]) r9 h10) rfl ⟨.inl rfl, trivial⟩ rfl) rfl ?_
   refine seq_run0 (stp_dat (u' := vagg (C_api_App (S_api_App.mk r7.1 r9.1))) (stp_build [(0, [vstr r7.1]), (1, [vstr r9.1])] tyZ60 tyP60 rfl ⟨rfl, .inl ⟨_, rfl, rfl, rfl⟩, rfl, rfl, .inl ⟨_, rfl, rfl, rfl⟩, rfl, trivial⟩) rfl) ?_
   refine seq_run0 (stp_dat (u' := vlst (List.map C_api_App [(S_api_App.mk r7.1 r9.1)])) (stp_lit [_] tyL30 ⟨rfl, .inr rfl, rfl, trivial⟩ rfl rfl) rfl) ?_
   obtain ⟨h11, H⟩ := gif H
   refine seq_run2 (t_app tyL30 (fun _ => rfl) rfl rfl rfl ⟨by simp, by first | (simp; done) | simpa using h11⟩ rfl) rfl ?_
   refine seq_run0 (stp_assign (.row _ _) rfl) ?_
   exact ⟨((r2.1 ++ [(S_api_App.mk r7.1 r9.1)]), r9.2.L, r9.2.at_), H, ⟨rfl, trivial⟩, ⟨rfl, rfl, trivial⟩⟩
  ·replace H := iff_ h6 H
   refine awp_skip ?_
   exact ⟨(r2.1, r4.2.L, r4.2.at_), H, ⟨rfl, trivial⟩, ⟨rfl, rfl, trivial⟩⟩
 ·rintro ⟨out12, c13, c14⟩ H
  replace H : gatemake_Stream_Apps_J1 out12 c13 c14 = some r := H
  unfold gatemake_Stream_Apps_J1 at H
  refine awp_seq ?_
  refine awp_plain hN rfl ?_
  refine seq_run0 (stp_move (.row _ _) rfl) ?_
  refine seq_run0 (stp_assign (.row _ _) rfl) ?_
  refine awp_ret ?_
  cases H
  exact ⟨trivial, ⟨t_slotv rfl rfl, trivial⟩, rfl⟩
end Go.Proofs.YtaolapgdgdmapaaGreatDoor
