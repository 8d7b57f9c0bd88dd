/- Walks along the models. Printed by a program. -/
import Derived.Test.YthgeeoecgneclaaGreatDoorYoc
namespace Go.Proofs.YthgeeoecgneclaaGreatDoor
open Go.RowKit
set_option linter.unusedVariables false
set_option maxRecDepth 20000
set_option maxHeartbeats 2000000
theorem k_gatemake_Below (x1 : Int) (n2 : Int) (r : (Int)) (H : m_gatemake_Below x1 n2 = some r) : Fn Tryz.prog 45 [vint x1, vint n2] (resOf [vint r]) := by
  refine ⟨by kernel_rfl, pure_of (us := [vint r]) Tryz.func45 rfl rfl rfl rfl fun X hN => ?_⟩
  unfold m_gatemake_Below at H
  refine awp_seq ?_
  refine awp_plain hN rfl ?_
  refine seq_run0 (stp_assign (.dat _) rfl) ?_
  refine awp_seq ?_
  refine awp_seq ?_
  refine awp_plain hN rfl ?_
  refine seq_run0 (stp_move (.dat _) rfl) ?_
  refine seq_run0 (stp_lss rfl rfl) ?_
  refine awp_cond _ rfl (fun h3 => ?_) (fun h3 => ?_)
  · replace H := ift h3 H
    refine awp_seq ?_
    refine awp_plain hN rfl ?_
    refine seq_run0 (stp_assign (.dat _) rfl) ?_
    refine awp_ret ?_
    cases H
    exact ⟨trivial, .inl rfl, trivial⟩
  · replace H := iff_ h3 H
    refine awp_skip ?_
    refine awp_seq ?_
    refine awp_plain hN rfl ?_
    refine seq_run0 (stp_move (.dat _) rfl) ?_
    refine seq_run0 (stp_move (.dat _) rfl) ?_
    obtain ⟨h4, H⟩ := gif H
    refine seq_run0 (stp_remT rfl rfl h4) ?_
    refine seq_run0 (stp_assign (.dat _) rfl) ?_
    refine awp_joinE (ι := Int) (fun i => [(0, .dat (vint i))]) (fun i => []) (fun i => gatemake_Below_J1 i = some r) (fun i => rfl) ?_ ?_
    · skip
      refine awp_seq ?_
      refine awp_plain hN rfl ?_
      refine seq_run0 (stp_move (.dat _) rfl) ?_
      refine seq_run0 (stp_lss rfl rfl) ?_
      refine awp_cond _ rfl (fun h5 => ?_) (fun h5 => ?_)
      · replace H := ift h5 H
        refine awp_plain hN rfl ?_
        refine seq_run0 (stp_move (.dat _) rfl) ?_
        refine seq_run0 (stp_move (.dat _) rfl) ?_
        refine seq_run0 (stp_wrap _ rfl rfl (.inl ⟨rfl, rfl⟩)) ?_
        refine seq_run0 (stp_assign (.dat _) rfl) ?_
        exact ⟨wr ((Int.tmod x1 n2) + n2), H, ⟨rfl, trivial⟩, trivial⟩
      · replace H := iff_ h5 H
        refine awp_skip ?_
        exact ⟨(Int.tmod x1 n2), H, ⟨rfl, trivial⟩, trivial⟩
    · rintro x6 H
      replace H : gatemake_Below_J1 x6 = some r := H
      unfold gatemake_Below_J1 at H
      refine awp_seq ?_
      refine awp_plain hN rfl ?_
      refine seq_run0 (stp_move (.dat _) rfl) ?_
      refine seq_run0 (stp_assign (.dat _) rfl) ?_
      refine awp_ret ?_
      cases H
      exact ⟨trivial, .inl rfl, trivial⟩
theorem k_gatemake_Stream_Next (s1 : S_gatemake_Stream) (n2 : Int) (r : (Int × S_gatemake_Stream)) (H : m_gatemake_Stream_Next s1 n2 = some r) : Imp Tryz.prog 21 25 (C_gatemake_Stream s1) [vint n2] (resOf [vint r.1]) (C_gatemake_Stream r.2) := by
  refine imp_of (us := [vint r.1]) (cs' := (C_gatemake_Stream r.2)) (by kernel_rfl) Tryz.func21 rfl rfl rfl rfl fun X bl hN => ?_
  unfold m_gatemake_Stream_Next at H
  refine awp_seq ?_
  refine awp_plain hN rfl ?_
  refine seq_run0 (stp_assign (.dat _) rfl) ?_
  refine awp_seq ?_
  refine awp_plain hN rfl ?_
  refine seq_run0 (stp_move (.ptr _ _) rfl) ?_
  refine seq_run0 (stp_nilP rfl) ?_
  refine seq_run0 (stp_fldP tyF25_1 rfl) ?_
  refine seq_run1 (stp_load1 tyS3 rfl rfl) rfl ?_
  refine seq_run0 (stp_wrap _ rfl rfl (.inl ⟨rfl, rfl⟩)) ?_
  refine seq_run0 (stp_nilP rfl) ?_
  refine seq_run0 (stp_fldP tyF25_1 rfl) ?_
  refine seq_run2 (stp_store1 tyS3 rfl rfl rfl rfl) rfl ?_
  refine awp_seq ?_
  refine awp_seq ?_
  refine awp_plain hN rfl ?_
  refine seq_run0 (stp_move (.ptr _ _) rfl) ?_
  refine seq_run0 (stp_nilP rfl) ?_
  refine seq_run0 (stp_fldP tyF25_0 rfl) ?_
  refine seq_run1 (stp_load1 tyS22 rfl rfl) rfl ?_
  refine seq_run0 (t_len tyU22 rfl) ?_
  refine seq_run0 (stp_eql rfl rfl) ?_
  refine awp_cond _ rfl (fun h3 => ?_) (fun h3 => ?_)
  · replace H := ift h3 H
    refine awp_seq ?_
    refine awp_plain hN rfl ?_
    refine seq_run0 (stp_move (.ptr _ _) rfl) ?_
    refine seq_run0 (stp_nilP rfl) ?_
    refine seq_run0 (stp_fldP tyF25_1 rfl) ?_
    refine seq_run1 (stp_load1 tyS3 rfl rfl) rfl ?_
    refine seq_run0 (stp_wrap _ rfl rfl (.inr (.inr ⟨rfl, rfl⟩))) ?_
    refine seq_run0 (stp_move (.dat _) rfl) ?_
    obtain ⟨r4, h5, H⟩ := bnd H
    refine seq_run0 (stp_call (k_gatemake_Below (wr ((wr (s1.at_ + 1)) * 7919)) n2 r4 h5) ⟨.inl rfl, .inl rfl, trivial⟩) ?_
    refine seq_run0 (stp_assign (.dat _) rfl) ?_
    refine awp_ret ?_
    cases H
    exact ⟨trivial, ⟨.inl rfl, trivial⟩, rfl⟩
  · replace H := iff_ h3 H
    refine awp_skip ?_
    refine awp_seq ?_
    refine awp_draw mixed hN rfl rfl ?_
    refine seq_run0 (stp_move (.ptr _ _) rfl) ?_
    refine seq_run0 (stp_nilP rfl) ?_
    refine seq_run0 (stp_fldP tyF25_1 rfl) ?_
    refine seq_run1 (stp_load1 tyS3 rfl rfl) rfl ?_
    refine seq_run0 (stp_wrap _ rfl rfl (.inr (.inl ⟨rfl, rfl⟩))) ?_
    refine seq_run0 (stp_move (.ptr _ _) rfl) ?_
    refine seq_run0 (stp_nilP rfl) ?_
    refine seq_run0 (stp_fldP tyF25_0 rfl) ?_
    refine seq_run1 (stp_load1 tyS22 rfl rfl) rfl ?_
    refine seq_run0 (t_len tyU22 rfl) ?_
    obtain ⟨h6, H⟩ := gif H
    refine seq_run0 (stp_remT rfl rfl h6) ?_
    refine seq_run0 (stp_assign (.dat _) rfl) ?_
    refine ⟨rfl, ?_⟩
    refine awp_seq ?_
    refine awp_draw mixed hN rfl rfl ?_
    refine seq_run0 (stp_move (.ptr _ _) rfl) ?_
    refine seq_run0 (stp_nilP rfl) ?_
    refine seq_run0 (stp_fldP tyF25_1 rfl) ?_
    refine seq_run1 (stp_load1 tyS3 rfl rfl) rfl ?_
    refine seq_run0 (stp_wrap _ rfl rfl (.inr (.inl ⟨rfl, rfl⟩))) ?_
    refine seq_run0 (stp_move (.ptr _ _) rfl) ?_
    refine seq_run0 (stp_nilP rfl) ?_
    refine seq_run0 (stp_fldP tyF25_0 rfl) ?_
    refine seq_run1 (stp_load1 tyS22 rfl rfl) rfl ?_
    refine seq_run0 (t_len tyU22 rfl) ?_
    obtain ⟨h7, H⟩ := gif H
    refine seq_run0 (stp_quo rfl rfl h7.1 h7.2) ?_
    refine seq_run0 (stp_assign (.dat _) rfl) ?_
    refine ⟨rfl, ?_⟩
    refine awp_seq ?_
    refine awp_plain hN rfl ?_
    refine seq_run0 (stp_move (.ptr _ _) rfl) ?_
    refine seq_run0 (stp_nilP rfl) ?_
    refine seq_run0 (stp_fldP tyF25_0 rfl) ?_
    refine seq_run1 (stp_load1 tyS22 rfl rfl) rfl ?_
    refine seq_run0 (stp_move (.dat _) rfl) ?_
    obtain ⟨x8, h9, H⟩ := bnd H
    refine seq_run0 (t_idxI tyE22 (fun _ => rfl) rfl rfl h9) ?_
    refine seq_run0 (stp_loadE1 tyS3 rfl (map_at (at_some h9).2) rfl) ?_
    obtain ⟨r10, h11, H⟩ := bnd H
    refine seq_run0 (stp_call (k_gatemake_Below x8 1073741824 r10 h11) ⟨.inl rfl, .inl rfl, trivial⟩) ?_
    refine seq_run0 (stp_move (.dat _) rfl) ?_
    refine seq_run0 (stp_move (.dat _) rfl) ?_
    refine seq_run0 (stp_wrap _ rfl rfl (.inl ⟨rfl, rfl⟩)) ?_
    refine seq_run0 (stp_wrap _ rfl rfl (.inr (.inr ⟨rfl, rfl⟩))) ?_
    refine seq_run0 (stp_wrap _ rfl rfl (.inl ⟨rfl, rfl⟩)) ?_
    refine seq_run0 (stp_move (.dat _) rfl) ?_
    obtain ⟨r12, h13, H⟩ := bnd H
    refine seq_run0 (stp_call (k_gatemake_Below (wr (r10 + (wr (((wr ((wr (s1.at_ + 1)) - 1)) / (s1.L.length : Int)) * (wr (7919 + (Int.tmod (wr ((wr (s1.at_ + 1)) - 1)) (s1.L.length : Int)))))))) n2 r12 h13) ⟨.inl rfl, .inl rfl, trivial⟩) ?_
    refine seq_run0 (stp_assign (.dat _) rfl) ?_
    refine awp_ret ?_
    cases H
    exact ⟨trivial, ⟨.inl rfl, trivial⟩, rfl⟩
theorem k_gatemake_Stream_Range (s1 : S_gatemake_Stream) (low2 : Int) (high3 : Int) (r : (Int × S_gatemake_Stream)) (H : m_gatemake_Stream_Range s1 low2 high3 = some r) : Imp Tryz.prog 5 25 (C_gatemake_Stream s1) [vint low2, vint high3] (resOf [vint r.1]) (C_gatemake_Stream r.2) := by
  refine imp_of (us := [vint r.1]) (cs' := (C_gatemake_Stream r.2)) (by kernel_rfl) Tryz.func5 rfl rfl rfl rfl fun X bl hN => ?_
  unfold m_gatemake_Stream_Range at H
  refine awp_seq ?_
  refine awp_plain hN rfl ?_
  refine seq_run0 (stp_assign (.dat _) rfl) ?_
  refine awp_seq ?_
  refine awp_seq ?_
  refine awp_plain hN rfl ?_
  refine seq_run0 (stp_move (.dat _) rfl) ?_
  refine seq_run0 (stp_move (.dat _) rfl) ?_
  refine seq_run0 (stp_lss rfl rfl) ?_
  refine awp_cond _ rfl (fun h4 => ?_) (fun h4 => ?_)
  · replace H := ift h4 H
    refine awp_seq ?_
    refine awp_plain hN rfl ?_
    refine seq_run0 (stp_move (.dat _) rfl) ?_
    refine seq_run0 (stp_assign (.dat _) rfl) ?_
    refine awp_ret ?_
    cases H
    exact ⟨trivial, ⟨.inl rfl, trivial⟩, rfl⟩
  · replace H := iff_ h4 H
    refine awp_skip ?_
    refine awp_seq ?_
    refine awp_plain hN rfl ?_
    refine seq_run0 (stp_move (.dat _) rfl) ?_
    refine seq_run0 (stp_move (.ptr _ _) rfl) ?_
    refine seq_run0 (stp_move (.dat _) rfl) ?_
    refine seq_run0 (stp_move (.dat _) rfl) ?_
    refine seq_run0 (stp_wrap _ rfl rfl (.inr (.inl ⟨rfl, rfl⟩))) ?_
    refine seq_run0 (stp_wrap _ rfl rfl (.inl ⟨rfl, rfl⟩)) ?_
    obtain ⟨r5, h6, H⟩ := bnd H
    refine seq_run2 (stp_imp (k_gatemake_Stream_Next s1 (wr ((wr (high3 - low2)) + 1)) r5 h6) rfl ⟨.inl rfl, trivial⟩ rfl) rfl ?_
    refine seq_run0 (stp_wrap _ rfl rfl (.inl ⟨rfl, rfl⟩)) ?_
    refine seq_run0 (stp_assign (.dat _) rfl) ?_
    refine awp_ret ?_
    cases H
    exact ⟨trivial, ⟨.inl rfl, trivial⟩, rfl⟩
theorem k_gatemake_Stream_Some (s1 : S_gatemake_Stream) (l2 : (List Bs)) (r : (Bs × S_gatemake_Stream)) (H : m_gatemake_Stream_Some s1 l2 = some r) : Imp Tryz.prog 6 25 (C_gatemake_Stream s1) [vlst (List.map C_string l2)] (resOf [vstr r.1]) (C_gatemake_Stream r.2) := by
  refine imp_of (us := [vstr r.1]) (cs' := (C_gatemake_Stream r.2)) (by kernel_rfl) Tryz.func6 rfl rfl rfl rfl fun X bl hN => ?_
  unfold m_gatemake_Stream_Some at H
  refine awp_seq ?_
  refine awp_plain hN rfl ?_
  refine seq_run0 (stp_assign (.dat _) rfl) ?_
  refine awp_seq ?_
  refine awp_plain hN rfl ?_
  refine seq_run0 (stp_move (.dat _) rfl) ?_
  refine seq_run0 (stp_move (.ptr _ _) rfl) ?_
  refine seq_run0 (stp_move (.dat _) rfl) ?_
  refine seq_run0 (t_len tyU46 rfl) ?_
  obtain ⟨r3, h4, H⟩ := bnd H
  refine seq_run2 (stp_imp (k_gatemake_Stream_Next s1 (l2.length : Int) r3 h4) rfl ⟨.inl rfl, trivial⟩ rfl) rfl ?_
  obtain ⟨x5, h6, H⟩ := bnd H
  refine seq_run0 (t_idxI tyE46 (fun _ => rfl) rfl rfl h6) ?_
  refine seq_run0 (stp_loadE1 tyS9 rfl (map_at (at_some h6).2) rfl) ?_
  refine seq_run0 (stp_assign (.dat _) rfl) ?_
  refine awp_ret ?_
  cases H
  exact ⟨trivial, ⟨.inl rfl, trivial⟩, rfl⟩
theorem k_gatemake_Stream_RightHeaders (s1 : S_gatemake_Stream) (most2 : Int) (r : ((List S_api_Header) × S_gatemake_Stream)) (H : m_gatemake_Stream_RightHeaders s1 most2 = some r) : Imp Tryz.prog 18 25 (C_gatemake_Stream s1) [vint most2] (resOf [vlst (List.map C_api_Header r.1)]) (C_gatemake_Stream r.2) := by
  refine imp_of (us := [vlst (List.map C_api_Header r.1)]) (cs' := (C_gatemake_Stream r.2)) (by kernel_rfl) Tryz.func18 rfl rfl rfl rfl fun X bl hN => ?_
  unfold m_gatemake_Stream_RightHeaders at H
  refine awp_seq ?_
  refine awp_plain hN rfl ?_
  refine seq_run0 (stp_assign (.dat _) rfl) ?_
  refine awp_seq ?_
  refine awp_plain hN rfl ?_
  refine seq_run0 (stp_assign (.dat _) rfl) ?_
  refine awp_seq ?_
  refine awp_seq ?_
  refine awp_plain hN rfl ?_
  refine seq_run0 (stp_move (.ptr _ _) rfl) ?_
  refine seq_run0 (stp_move (.dat _) rfl) ?_
  obtain ⟨r3, h4, H⟩ := bnd H
  refine seq_run2 (stp_imp (k_gatemake_Stream_Range s1 0 most2 r3 h4) rfl ⟨.inl rfl, .inl rfl, trivial⟩ rfl) rfl ?_
  refine seq_run0 (stp_move (.dat _) rfl) ?_
  refine awp_block ?_
  refine awp_nilrow 5 1 32 2 rfl rfl rfl ?_
  obtain ⟨h10, H⟩ := gif H
  refine awp_rng (fun (k8 : Nat) (s : (List Int) × Int × (List S_api_Header)) => [(0, .ptr 0 0), (5, .row 1 s.2.2.length), (8, .dat (vint r3.1)), (9, .dat (vint (k8 : Int)))]) (fun (k8 : Nat) (s : (List Int) × Int × (List S_api_Header)) => [(0, .box (some bl) 25 [.dat (vlst (List.map C_int s.1)), .dat (vint s.2.1)]), (1, .row 32 2 (List.map C_api_Header s.2.2))]) (r3.2.L, r3.2.at_, []) H ⟨rfl, congrArg (Slot.row 1) (by simp), rfl, rfl, trivial⟩ ⟨rfl, rfl, trivial⟩ (fun _ _ => rfl) ?_ ?_
  · rintro ⟨c5, c6, l7⟩ H
    replace H : gatemake_Stream_RightHeaders_E1 c5 c6 l7 = some r := H
    unfold gatemake_Stream_RightHeaders_E1 at H
    refine awp_seq ?_
    refine awp_plain hN rfl ?_
    refine seq_run0 (stp_lss rfl rfl) ?_
    refine awp_seq ?_
    refine awp_cond _ rfl (fun h => (lt_tI h).elim) (fun h => ?_)
    refine awp_exit ?_
    refine awp_seq ?_
    refine awp_plain hN rfl ?_
    refine seq_run0 (stp_move (.row _ _) rfl) ?_
    refine seq_run0 (stp_assign (.row _ _) rfl) ?_
    refine awp_ret ?_
    cases H
    exact ⟨trivial, ⟨t_slotv rfl rfl, trivial⟩, rfl⟩
  · rintro k8 ⟨c5, c6, l7⟩ q9 h11 H hq9
    replace H : gatemake_Stream_RightHeaders_L1 k8 c5 c6 l7 = some q9 := H
    unfold gatemake_Stream_RightHeaders_L1 at H
    refine awp_seq ?_
    refine awp_plain hN rfl ?_
    refine seq_run0 (stp_lss rfl rfl) ?_
    refine awp_seq ?_
    refine awp_cond _ rfl (fun h => ?_) (fun h => (lt_fI h11 h).elim)
    refine awp_skip ?_
    refine awp_seq ?_
    refine awp_block ?_
    refine awp_plain hN rfl ?_
    refine seq_run0 (stp_move (.row _ _) rfl) ?_
    refine seq_run0 (stp_move (.ptr _ _) rfl) ?_
    refine seq_run0 (stp_dat (u' := vlst (List.map C_string [[97, 99, 99, 101, 112, 116], [65, 99, 99, 101, 112, 116], [120, 45, 111, 110, 101], [88, 45, 84, 119, 111], [99, 111, 111, 107, 105, 101], [118, 97, 114, 121], [99, 111, 110, 110, 101, 99, 116, 105, 111, 110], [120, 45, 102, 111, 114, 119, 97, 114, 100, 101, 100, 45, 102, 111, 114], [118, 105, 97], [120, 45, 102, 111, 114, 119, 97, 114, 100, 101, 100, 45, 104, 111, 115, 116], [116, 101]])) (stp_lit [[_], [_], [_], [_], [_], [_], [_], [_], [_], [_], [_]] tyL46 ⟨rfl, .inl ⟨_, rfl, rfl, rfl⟩, rfl, rfl, .inl ⟨_, rfl, rfl, rfl⟩, rfl, rfl, .inl ⟨_, rfl, rfl, rfl⟩, rfl, rfl, .inl ⟨_, rfl, rfl, rfl⟩, rfl, rfl, .inl ⟨_, rfl, rfl, rfl⟩, rfl, rfl, .inl ⟨_, rfl, rfl, rfl⟩, rfl, rfl, .inl ⟨_, rfl, rfl, rfl⟩, rfl, rfl, .inl ⟨_, rfl, rfl, rfl⟩, rfl, rfl, .inl ⟨_, rfl, rfl, rfl⟩, rfl, rfl, .inl ⟨_, rfl, rfl, rfl⟩, rfl, rfl, .inl ⟨_, rfl, rfl, rfl⟩, rfl, trivial⟩ rfl rfl) rfl) ?_
    obtain ⟨r12, h13, H⟩ := bnd H
    refine seq_run2 (stp_imp (k_gatemake_Stream_Some (S_gatemake_Stream.mk c5 c6) ([[97, 99, 99, 101, 112, 116], [65, 99, 99, 101, 112, 116], [120, 45, 111, 110, 101], [88, 45, 84, 119, 111], [99, 111, 111, 107, 105, 101], [118, 97, 114, 121], [99, 111, 110, 110, 101, 99, 116, 105, 111, 110], [120, 45, 102, 111, 114, 119, 97, 114, 100, 101, 100, 45, 102, 111, 114], [118, 105, 97], [120, 45, 102, 111, 114, 119, 97, 114, 100, 101, 100, 45, 104, 111, 115, 116], [116, 101]]) r12 h13) rfl ⟨.inl rfl, trivial⟩ rfl) rfl ?_
    refine seq_run0 (stp_move (.ptr _ _) rfl) ?_
    refine seq_run0 (stp_dat (u' := vlst (List.map C_string [[49], [120], [97, 44, 32, 98], [], [120, 45, 111, 110, 101, 44, 32, 99, 108, 111, 115, 101], [103, 119], [49, 46, 50, 46, 51, 46, 52], [53, 46, 54, 46, 55, 46, 56, 44, 32, 57, 46, 57, 46, 57, 46, 57]])) (stp_lit [[_], [_], [_], [_], [_], [_], [_], [_]] tyL46 ⟨rfl, .inl ⟨_, rfl, rfl, rfl⟩, rfl, rfl, .inl ⟨_, rfl, rfl, rfl⟩, rfl, rfl, .inl ⟨_, rfl, rfl, rfl⟩, rfl, rfl, .inl ⟨_, rfl, rfl, rfl⟩, rfl, rfl, .inl ⟨_, rfl, rfl, rfl⟩, rfl, rfl, .inl ⟨_, rfl, rfl, rfl⟩, rfl, rfl, .inl ⟨_, rfl, rfl, rfl⟩, rfl, rfl, .inl ⟨_, rfl, rfl, rfl⟩, rfl, trivial⟩ rfl rfl) rfl) ?_
    obtain ⟨r14, h15, H⟩ := bnd H
    refine seq_run2 (stp_imp (k_gatemake_Stream_Some r12.2 ([[49], [120], [97, 44, 32, 98], [], [120, 45, 111, 110, 101, 44, 32, 99, 108, 111, 115, 101], [103, 119], [49, 46, 50, 46, 51, 46, 52], [53, 46, 54, 46, 55, 46, 56, 44, 32, 57, 46, 57, 46, 57, 46, 57]]) r14 h15) rfl ⟨.inl rfl, trivial⟩ rfl) rfl ?_
    refine seq_run0 (stp_dat (u' := vagg (C_api_Header (S_api_Header.mk r12.1 r14.1))) (stp_build [(0, [vstr r12.1]), (1, [vstr r14.1])] tyZ32 tyP32 rfl ⟨rfl, .inl ⟨_, rfl, rfl, rfl⟩, rfl, rfl, .inl ⟨_, rfl, rfl, rfl⟩, rfl, trivial⟩) rfl) ?_
    refine seq_run0 (stp_dat (u' := vlst (List.map C_api_Header [(S_api_Header.mk r12.1 r14.1)])) (stp_lit [_] tyL26 ⟨rfl, .inr rfl, rfl, trivial⟩ rfl rfl) rfl) ?_
    obtain ⟨h16, H⟩ := gif H
    refine seq_run2 (t_app tyL26 (fun _ => rfl) rfl rfl rfl ⟨by simp, by first | (simp; done) | simpa using h16⟩ rfl) rfl ?_
    refine seq_run0 (stp_assign (.row _ _) rfl) ?_
    refine awp_plain hN rfl ?_
    refine seq_run0 (stp_add rfl rfl (by omega)) ?_
    refine seq_run0 (stp_move (.dat _) rfl) ?_
    exact ⟨_, backl H, ⟨rfl, rfl, rfl, rfl, trivial⟩, ⟨rfl, rfl, trivial⟩⟩
theorem k_gatemake_Stream_Flip (s1 : S_gatemake_Stream) (n2 : Int) (r : (Bool × S_gatemake_Stream)) (H : m_gatemake_Stream_Flip s1 n2 = some r) : Imp Tryz.prog 12 25 (C_gatemake_Stream s1) [vint n2] (resOf [vbool r.1]) (C_gatemake_Stream r.2) := by
  refine imp_of (us := [vbool r.1]) (cs' := (C_gatemake_Stream r.2)) (by kernel_rfl) Tryz.func12 rfl rfl rfl rfl fun X bl hN => ?_
  unfold m_gatemake_Stream_Flip at H
  refine awp_seq ?_
  refine awp_plain hN rfl ?_
  refine seq_run0 (stp_assign (.dat _) rfl) ?_
  refine awp_seq ?_
  refine awp_plain hN rfl ?_
  refine seq_run0 (stp_move (.ptr _ _) rfl) ?_
  refine seq_run0 (stp_move (.dat _) rfl) ?_
  obtain ⟨r3, h4, H⟩ := bnd H
  refine seq_run2 (stp_imp (k_gatemake_Stream_Next s1 n2 r3 h4) rfl ⟨.inl rfl, trivial⟩ rfl) rfl ?_
  refine seq_run0 (stp_eql rfl rfl) ?_
  refine seq_run0 (stp_assign (.dat _) rfl) ?_
  refine awp_ret ?_
  cases H
  exact ⟨trivial, ⟨.inl rfl, trivial⟩, rfl⟩
theorem k_strings_Repeat (s : Bs) (n : Int) (r : Bs) (H : m_strings_Repeat s n = some r) : Fn Tryz.prog 44 [vstr s, vint n] (resOf [vstr r]) := by
  obtain ⟨h0, h1, h2, rfl⟩ := repeat_some H
  obtain ⟨c, rfl⟩ := Int.eq_ofNat_of_zero_le h0
  refine fn_of_calls (by kernel_rfl) fun M w vs h => ?_
  have hv := Ts_vals (us := [.string ⟨s.toArray⟩, .int .i64 c]) h
  subst hv
  have hs : (ByteArray.mk s.toArray).size = s.length := by simp [ByteArray.size]
  refine (Tryz.strings_Repeat ⟨s.toArray⟩ c w (by omega) (by rw [hs]; exact Nat.le_trans (Nat.mul_le_mul h2 (show c ≤ 1000000 by omega)) (by decide))).mono ?_
  rintro e w' ⟨rfl, hb⟩
  exact ⟨_, rfl, by simp [resOf, vstr, vval], Kp.of_below hb⟩
theorem k_gatemake_Stream_TokenText (s1 : S_gatemake_Stream) (r : (Bs × S_gatemake_Stream)) (H : m_gatemake_Stream_TokenText s1 = some r) : Imp Tryz.prog 19 25 (C_gatemake_Stream s1) [] (resOf [vstr r.1]) (C_gatemake_Stream r.2) := by
  refine imp_of (us := [vstr r.1]) (cs' := (C_gatemake_Stream r.2)) (by kernel_rfl) Tryz.func19 rfl rfl rfl rfl fun X bl hN => ?_
  unfold m_gatemake_Stream_TokenText at H
  refine awp_seq ?_
  refine awp_plain hN rfl ?_
  refine seq_run0 (stp_assign (.dat _) rfl) ?_
  refine awp_seq ?_
  refine awp_plain hN rfl ?_
  refine seq_run0 (stp_move (.ptr _ _) rfl) ?_
  obtain ⟨r2, h3, H⟩ := bnd H
  refine seq_run0 (stp_call (k_strings_Repeat [110] 101 r2 h3) ⟨.inl rfl, .inl rfl, trivial⟩) ?_
  refine seq_run0 (stp_dat (u' := vlst (List.map C_string [[97, 99, 99, 101, 112, 116], [88, 45, 79, 110, 101], [120, 45, 111, 110, 101], [118, 105, 97], [97], [65], [116, 101], [99, 111, 110, 110, 101, 99, 116, 105, 111, 110], [], [97, 32, 98], [97, 58], [127], r2])) (stp_lit [[_], [_], [_], [_], [_], [_], [_], [_], [_], [_], [_], [_], [_]] tyL46 ⟨rfl, .inl ⟨_, rfl, rfl, rfl⟩, rfl, rfl, .inl ⟨_, rfl, rfl, rfl⟩, rfl, rfl, .inl ⟨_, rfl, rfl, rfl⟩, rfl, rfl, .inl ⟨_, rfl, rfl, rfl⟩, rfl, rfl, .inl ⟨_, rfl, rfl, rfl⟩, rfl, rfl, .inl ⟨_, rfl, rfl, rfl⟩, rfl, rfl, .inl ⟨_, rfl, rfl, rfl⟩, rfl, rfl, .inl ⟨_, rfl, rfl, rfl⟩, rfl, rfl, .inl ⟨_, rfl, rfl, rfl⟩, rfl, rfl, .inl ⟨_, rfl, rfl, rfl⟩, rfl, rfl, .inl ⟨_, rfl, rfl, rfl⟩, rfl, rfl, .inl ⟨_, rfl, rfl, rfl⟩, rfl, rfl, .inl ⟨_, rfl, rfl, rfl⟩, rfl, trivial⟩ rfl rfl) rfl) ?_
  obtain ⟨r4, h5, H⟩ := bnd H
  refine seq_run2 (stp_imp (k_gatemake_Stream_Some s1 ([[97, 99, 99, 101, 112, 116], [88, 45, 79, 110, 101], [120, 45, 111, 110, 101], [118, 105, 97], [97], [65], [116, 101], [99, 111, 110, 110, 101, 99, 116, 105, 111, 110], [], [97, 32, 98], [97, 58], [127], r2]) r4 h5) rfl ⟨.inl rfl, trivial⟩ rfl) rfl ?_
  refine seq_run0 (stp_assign (.dat _) rfl) ?_
  refine awp_ret ?_
  cases H
  exact ⟨trivial, ⟨.inl rfl, trivial⟩, rfl⟩
theorem k_gatemake_Stream_FieldText (s1 : S_gatemake_Stream) (r : (Bs × S_gatemake_Stream)) (H : m_gatemake_Stream_FieldText s1 = some r) : Imp Tryz.prog 20 25 (C_gatemake_Stream s1) [] (resOf [vstr r.1]) (C_gatemake_Stream r.2) := by
  refine imp_of (us := [vstr r.1]) (cs' := (C_gatemake_Stream r.2)) (by kernel_rfl) Tryz.func20 rfl rfl rfl rfl fun X bl hN => ?_
  unfold m_gatemake_Stream_FieldText at H
  refine awp_seq ?_
  refine awp_plain hN rfl ?_
  refine seq_run0 (stp_assign (.dat _) rfl) ?_
  refine awp_seq ?_
  refine awp_plain hN rfl ?_
  refine seq_run0 (stp_move (.ptr _ _) rfl) ?_
  obtain ⟨r2, h3, H⟩ := bnd H
  refine seq_run0 (stp_call (k_strings_Repeat [118] 2001 r2 h3) ⟨.inl rfl, .inl rfl, trivial⟩) ?_
  refine seq_run0 (stp_dat (u' := vlst (List.map C_string [[49], [120], [97, 44, 32, 98], [], [116, 101, 120, 116, 47, 104, 116, 109, 108], [99, 108, 111, 115, 101], [120, 45, 111, 110, 101], [103, 119, 44, 32, 98], [49, 46, 50, 46, 51, 46, 52, 44, 32, 53, 46, 54, 46, 55, 46, 56], [32, 120], [120, 32], [97, 9, 98], [128], r2])) (stp_lit [[_], [_], [_], [_], [_], [_], [_], [_], [_], [_], [_], [_], [_], [_]] tyL46 ⟨rfl, .inl ⟨_, rfl, rfl, rfl⟩, rfl, rfl, .inl ⟨_, rfl, rfl, rfl⟩, rfl, rfl, .inl ⟨_, rfl, rfl, rfl⟩, rfl, rfl, .inl ⟨_, rfl, rfl, rfl⟩, rfl, rfl, .inl ⟨_, rfl, rfl, rfl⟩, rfl, rfl, .inl ⟨_, rfl, rfl, rfl⟩, rfl, rfl, .inl ⟨_, rfl, rfl, rfl⟩, rfl, rfl, .inl ⟨_, rfl, rfl, rfl⟩, rfl, rfl, .inl ⟨_, rfl, rfl, rfl⟩, rfl, rfl, .inl ⟨_, rfl, rfl, rfl⟩, rfl, rfl, .inl ⟨_, rfl, rfl, rfl⟩, rfl, rfl, .inl ⟨_, rfl, rfl, rfl⟩, rfl, rfl, .inl ⟨_, rfl, rfl, rfl⟩, rfl, rfl, .inl ⟨_, rfl, rfl, rfl⟩, rfl, trivial⟩ rfl rfl) rfl) ?_
  obtain ⟨r4, h5, H⟩ := bnd H
  refine seq_run2 (stp_imp (k_gatemake_Stream_Some s1 ([[49], [120], [97, 44, 32, 98], [], [116, 101, 120, 116, 47, 104, 116, 109, 108], [99, 108, 111, 115, 101], [120, 45, 111, 110, 101], [103, 119, 44, 32, 98], [49, 46, 50, 46, 51, 46, 52, 44, 32, 53, 46, 54, 46, 55, 46, 56], [32, 120], [120, 32], [97, 9, 98], [128], r2]) r4 h5) rfl ⟨.inl rfl, trivial⟩ rfl) rfl ?_
  refine seq_run0 (stp_assign (.dat _) rfl) ?_
  refine awp_ret ?_
  cases H
  exact ⟨trivial, ⟨.inl rfl, trivial⟩, rfl⟩
theorem kr_gatemake_Stream_RightHeaders (s1 : S_gatemake_Stream) (most2 : Int) (r : ((List S_api_Header) × S_gatemake_Stream)) (H : m_gatemake_Stream_RightHeaders s1 most2 = some r) : FnG Tryz.prog 18 [.ptr 0 0, .dat (vint most2)] [(0, .box (some 0) 25 (List.map .dat (C_gatemake_Stream s1)))] (.row 1 r.1.length) [(0, .box (some 0) 25 (List.map .dat (C_gatemake_Stream r.2))), (1, .row 32 2 (List.map C_api_Header r.1))] := by
  refine fnG_of (by kernel_rfl) Tryz.func18 rfl rfl rfl rfl fun X A hN => ?_
  unfold m_gatemake_Stream_RightHeaders at H
  refine awp_seq ?_
  refine awp_plain hN rfl ?_
  refine seq_run0 (stp_assign (.dat _) rfl) ?_
  refine awp_seq ?_
  refine awp_plain hN rfl ?_
  refine seq_run0 (stp_assign (.dat _) rfl) ?_
  refine awp_seq ?_
  refine awp_seq ?_
  refine awp_plain hN rfl ?_
  refine seq_run0 (stp_move (.ptr _ _) rfl) ?_
  refine seq_run0 (stp_move (.dat _) rfl) ?_
  obtain ⟨r3, h4, H⟩ := bnd H
  refine seq_run2 (stp_imp (k_gatemake_Stream_Range s1 0 most2 r3 h4) rfl ⟨.inl rfl, .inl rfl, trivial⟩ rfl) rfl ?_
  refine seq_run0 (stp_move (.dat _) rfl) ?_
  refine awp_block ?_
  refine awp_nilrow 5 1 32 2 rfl rfl rfl ?_
  obtain ⟨h10, H⟩ := gif H
  refine awp_rng (fun (k8 : Nat) (s : (List Int) × Int × (List S_api_Header)) => [(0, .ptr 0 0), (5, .row 1 s.2.2.length), (8, .dat (vint r3.1)), (9, .dat (vint (k8 : Int)))]) (fun (k8 : Nat) (s : (List Int) × Int × (List S_api_Header)) => [(0, .box (some (A.bl 0)) 25 [.dat (vlst (List.map C_int s.1)), .dat (vint s.2.1)]), (1, .row 32 2 (List.map C_api_Header s.2.2))]) (r3.2.L, r3.2.at_, []) H ⟨rfl, congrArg (Slot.row 1) (by simp), rfl, rfl, trivial⟩ ⟨rfl, rfl, trivial⟩ (fun _ _ => rfl) ?_ ?_
  · rintro ⟨c5, c6, l7⟩ H
    replace H : gatemake_Stream_RightHeaders_E1 c5 c6 l7 = some r := H
    unfold gatemake_Stream_RightHeaders_E1 at H
    refine awp_seq ?_
    refine awp_plain hN rfl ?_
    refine seq_run0 (stp_lss rfl rfl) ?_
    refine awp_seq ?_
    refine awp_cond _ rfl (fun h => (lt_tI h).elim) (fun h => ?_)
    refine awp_exit ?_
    refine awp_seq ?_
    refine awp_plain hN rfl ?_
    refine seq_run0 (stp_move (.row _ _) rfl) ?_
    refine seq_run0 (stp_assign (.row _ _) rfl) ?_
    refine awp_ret ?_
    cases H
    exact ⟨trivial, [(4, .row 1 _)], ⟨rfl, trivial⟩, ⟨rfl, rfl, trivial⟩, rfl, .inr ⟨4, rfl, rfl⟩⟩
  · rintro k8 ⟨c5, c6, l7⟩ q9 h11 H hq9
    replace H : gatemake_Stream_RightHeaders_L1 k8 c5 c6 l7 = some q9 := H
    unfold gatemake_Stream_RightHeaders_L1 at H
    refine awp_seq ?_
    refine awp_plain hN rfl ?_
    refine seq_run0 (stp_lss rfl rfl) ?_
    refine awp_seq ?_
    refine awp_cond _ rfl (fun h => ?_) (fun h => (lt_fI h11 h).elim)
    refine awp_skip ?_
    refine awp_seq ?_
    refine awp_block ?_
    refine awp_plain hN rfl ?_
    refine seq_run0 (stp_move (.row _ _) rfl) ?_
    refine seq_run0 (stp_move (.ptr _ _) rfl) ?_
    refine seq_run0 (stp_dat (u' := vlst (List.map C_string [[97, 99, 99, 101, 112, 116], [65, 99, 99, 101, 112, 116], [120, 45, 111, 110, 101], [88, 45, 84, 119, 111], [99, 111, 111, 107, 105, 101], [118, 97, 114, 121], [99, 111, 110, 110, 101, 99, 116, 105, 111, 110], [120, 45, 102, 111, 114, 119, 97, 114, 100, 101, 100, 45, 102, 111, 114], [118, 105, 97], [120, 45, 102, 111, 114, 119, 97, 114, 100, 101, 100, 45, 104, 111, 115, 116], [116, 101]])) (stp_lit [[_], [_], [_], [_], [_], [_], [_], [_], [_], [_], [_]] tyL46 ⟨rfl, .inl ⟨_, rfl, rfl, rfl⟩, rfl, rfl, .inl ⟨_, rfl, rfl, rfl⟩, rfl, rfl, .inl ⟨_, rfl, rfl, rfl⟩, rfl, rfl, .inl ⟨_, rfl, rfl, rfl⟩, rfl, rfl, .inl ⟨_, rfl, rfl, rfl⟩, rfl, rfl, .inl ⟨_, rfl, rfl, rfl⟩, rfl, rfl, .inl ⟨_, rfl, rfl, rfl⟩, rfl, rfl, .inl ⟨_, rfl, rfl, rfl⟩, rfl, rfl, .inl ⟨_, rfl, rfl, rfl⟩, rfl, rfl, .inl ⟨_, rfl, rfl, rfl⟩, rfl, rfl, .inl ⟨_, rfl, rfl, rfl⟩, rfl, trivial⟩ rfl rfl) rfl) ?_
    obtain ⟨r12, h13, H⟩ := bnd H
    refine seq_run2 (stp_imp (k_gatemake_Stream_Some (S_gatemake_Stream.mk c5 c6) ([[97, 99, 99, 101, 112, 116], [65, 99, 99, 101, 112, 116], [120, 45, 111, 110, 101], [88, 45, 84, 119, 111], [99, 111, 111, 107, 105, 101], [118, 97, 114, 121], [99, 111, 110, 110, 101, 99, 116, 105, 111, 110], [120, 45, 102, 111, 114, 119, 97, 114, 100, 101, 100, 45, 102, 111, 114], [118, 105, 97], [120, 45, 102, 111, 114, 119, 97, 114, 100, 101, 100, 45, 104, 111, 115, 116], [116, 101]]) r12 h13) rfl ⟨.inl rfl, trivial⟩ rfl) rfl ?_
    refine seq_run0 (stp_move (.ptr _ _) rfl) ?_
    refine seq_run0 (stp_dat (u' := vlst (List.map C_string [[49], [120], [97, 44, 32, 98], [], [120, 45, 111, 110, 101, 44, 32, 99, 108, 111, 115, 101], [103, 119], [49, 46, 50, 46, 51, 46, 52], [53, 46, 54, 46, 55, 46, 56, 44, 32, 57, 46, 57, 46, 57, 46, 57]])) (stp_lit [[_], [_], [_], [_], [_], [_], [_], [_]] tyL46 ⟨rfl, .inl ⟨_, rfl, rfl, rfl⟩, rfl, rfl, .inl ⟨_, rfl, rfl, rfl⟩, rfl, rfl, .inl ⟨_, rfl, rfl, rfl⟩, rfl, rfl, .inl ⟨_, rfl, rfl, rfl⟩, rfl, rfl, .inl ⟨_, rfl, rfl, rfl⟩, rfl, rfl, .inl ⟨_, rfl, rfl, rfl⟩, rfl, rfl, .inl ⟨_, rfl, rfl, rfl⟩, rfl, rfl, .inl ⟨_, rfl, rfl, rfl⟩, rfl, trivial⟩ rfl rfl) rfl) ?_
    obtain ⟨r14, h15, H⟩ := bnd H
    refine seq_run2 (stp_imp (k_gatemake_Stream_Some r12.2 ([[49], [120], [97, 44, 32, 98], [], [120, 45, 111, 110, 101, 44, 32, 99, 108, 111, 115, 101], [103, 119], [49, 46, 50, 46, 51, 46, 52], [53, 46, 54, 46, 55, 46, 56, 44, 32, 57, 46, 57, 46, 57, 46, 57]]) r14 h15) rfl ⟨.inl rfl, trivial⟩ rfl) rfl ?_
    refine seq_run0 (stp_dat (u' := vagg (C_api_Header (S_api_Header.mk r12.1 r14.1))) (stp_build [(0, [vstr r12.1]), (1, [vstr r14.1])] tyZ32 tyP32 rfl ⟨rfl, .inl ⟨_, rfl, rfl, rfl⟩, rfl, rfl, .inl ⟨_, rfl, rfl, rfl⟩, rfl, trivial⟩) rfl) ?_
    refine seq_run0 (stp_dat (u' := vlst (List.map C_api_Header [(S_api_Header.mk r12.1 r14.1)])) (stp_lit [_] tyL26 ⟨rfl, .inr rfl, rfl, trivial⟩ rfl rfl) rfl) ?_
    obtain ⟨h16, H⟩ := gif H
    refine seq_run2 (t_app tyL26 (fun _ => rfl) rfl rfl rfl ⟨by simp, by first | (simp; done) | simpa using h16⟩ rfl) rfl ?_
    refine seq_run0 (stp_assign (.row _ _) rfl) ?_
    refine awp_plain hN rfl ?_
    refine seq_run0 (stp_add rfl rfl (by omega)) ?_
    refine seq_run0 (stp_move (.dat _) rfl) ?_
    exact ⟨_, backl H, ⟨rfl, rfl, rfl, rfl, trivial⟩, ⟨rfl, rfl, trivial⟩⟩
theorem k_gatemake_Stream_Headers (s1 : S_gatemake_Stream) (most2 : Int) (r : ((List S_api_Header) × S_gatemake_Stream)) (H : m_gatemake_Stream_Headers s1 most2 = some r) : Imp Tryz.prog 4 25 (C_gatemake_Stream s1) [vint most2] (resOf [vlst (List.map C_api_Header r.1)]) (C_gatemake_Stream r.2) := by
  refine imp_of (us := [vlst (List.map C_api_Header r.1)]) (cs' := (C_gatemake_Stream r.2)) (by kernel_rfl) Tryz.func4 rfl rfl rfl rfl fun X bl hN => ?_
  unfold m_gatemake_Stream_Headers at H
  refine awp_seq ?_
  refine awp_plain hN rfl ?_
  refine seq_run0 (stp_assign (.dat _) rfl) ?_
  refine awp_seq ?_
  refine awp_plain hN rfl ?_
  refine seq_run0 (stp_move (.ptr _ _) rfl) ?_
  refine seq_run0 (stp_move (.dat _) rfl) ?_
  obtain ⟨r3, h4, H⟩ := bnd H
  refine seq_callG (rn [(0, 0), (1, 1)]) [(0, _, _, some _)] [(1, _)] (kr_gatemake_Stream_RightHeaders s1 most2 r3 h4) ⟨rfl, rfl, trivial⟩ ⟨.inl (.inl rfl), .inl (.inl rfl), trivial⟩ ⟨⟨⟨rfl, rfl⟩, trivial⟩, trivial⟩ rfl ?_
  refine seq_run0 (stp_assign (.row _ _) rfl) ?_
  refine awp_joinE (ι := (List S_api_Header) × (List Int) × Int) (fun i => [(0, .ptr 0 0), (5, .row 1 i.1.length)]) (fun i => [(0, .box (some bl) 25 [.dat (vlst (List.map C_int i.2.1)), .dat (vint i.2.2)]), (1, .row 32 2 (List.map C_api_Header i.1))]) (fun i => gatemake_Stream_Headers_J1 i.1 i.2.1 i.2.2 = some r) (fun i => rfl) ?_ ?_
  · skip
    refine awp_seq ?_
    refine awp_plain hN rfl ?_
    refine seq_run0 (stp_move (.ptr _ _) rfl) ?_
    obtain ⟨r5, h6, H⟩ := bnd H
    refine seq_run2 (stp_imp (k_gatemake_Stream_Flip r3.2 10 r5 h6) rfl ⟨.inl rfl, trivial⟩ rfl) rfl ?_
    refine awp_cond _ rfl (fun h7 => ?_) (fun h7 => ?_)
    · replace H := ift h7 H
      refine awp_plain hN rfl ?_
      refine seq_run0 (stp_move (.row _ _) rfl) ?_
      refine seq_run0 (stp_move (.ptr _ _) rfl) ?_
      obtain ⟨r8, h9, H⟩ := bnd H
      refine seq_run2 (stp_imp (k_gatemake_Stream_TokenText r5.2 r8 h9) rfl trivial rfl) rfl ?_
      refine seq_run0 (stp_move (.ptr _ _) rfl) ?_
      obtain ⟨r10, h11, H⟩ := bnd H
      refine seq_run2 (stp_imp (k_gatemake_Stream_FieldText r8.2 r10 h11) rfl trivial rfl) rfl ?_
      refine seq_run0 (stp_dat (u' := vagg (C_api_Header (S_api_Header.mk r8.1 r10.1))) (stp_build [(0, [vstr r8.1]), (1, [vstr r10.1])] tyZ32 tyP32 rfl ⟨rfl, .inl ⟨_, rfl, rfl, rfl⟩, rfl, rfl, .inl ⟨_, rfl, rfl, rfl⟩, rfl, trivial⟩) rfl) ?_
      refine seq_run0 (stp_dat (u' := vlst (List.map C_api_Header [(S_api_Header.mk r8.1 r10.1)])) (stp_lit [_] tyL26 ⟨rfl, .inr rfl, rfl, trivial⟩ rfl rfl) rfl) ?_
      obtain ⟨h12, H⟩ := gif H
      refine seq_run2 (t_app tyL26 (fun _ => rfl) rfl rfl rfl ⟨by simp, by first | (simp; done) | simpa using h12⟩ rfl) rfl ?_
      refine seq_run0 (stp_assign (.row _ _) rfl) ?_
      exact ⟨((r3.1 ++ [(S_api_Header.mk r8.1 r10.1)]), r10.2.L, r10.2.at_), H, ⟨rfl, rfl, trivial⟩, ⟨rfl, rfl, trivial⟩⟩
    · replace H := iff_ h7 H
      refine awp_skip ?_
      exact ⟨(r3.1, r5.2.L, r5.2.at_), H, ⟨rfl, rfl, trivial⟩, ⟨rfl, rfl, trivial⟩⟩
  · rintro ⟨out13, c14, c15⟩ H
    replace H : gatemake_Stream_Headers_J1 out13 c14 c15 = some r := H
    unfold gatemake_Stream_Headers_J1 at H
    refine awp_joinE (ι := (List S_api_Header) × (List Int) × Int) (fun i => [(5, .row 1 i.1.length)]) (fun i => [(0, .box (some bl) 25 [.dat (vlst (List.map C_int i.2.1)), .dat (vint i.2.2)]), (1, .row 32 2 (List.map C_api_Header i.1))]) (fun i => gatemake_Stream_Headers_J2 i.1 i.2.1 i.2.2 = some r) (fun i => rfl) ?_ ?_
    · skip
      refine awp_seq ?_
      refine awp_plain hN rfl ?_
      refine seq_run0 (stp_move (.ptr _ _) rfl) ?_
      obtain ⟨r16, h17, H⟩ := bnd H
      refine seq_run2 (stp_imp (k_gatemake_Stream_Flip (S_gatemake_Stream.mk c14 c15) 60 r16 h17) rfl ⟨.inl rfl, trivial⟩ rfl) rfl ?_
      refine awp_cond _ rfl (fun h18 => ?_) (fun h18 => ?_)
      · replace H := ift h18 H
        refine awp_seq ?_
        refine awp_plain hN rfl ?_
        refine seq_run0 (stp_move (.dat _) rfl) ?_
        refine awp_block ?_
        obtain ⟨h22, H⟩ := gif H
        refine awp_rng (fun (k20 : Nat) (s : (List S_api_Header)) => [(5, .row 1 s.length), (21, .dat (vint (k20 : Int)))]) (fun (k20 : Nat) (s : (List S_api_Header)) => [(0, .box (some bl) 25 [.dat (vlst (List.map C_int r16.2.L)), .dat (vint r16.2.at_)]), (1, .row 32 2 (List.map C_api_Header s))]) out13 H ⟨rfl, rfl, trivial⟩ ⟨rfl, rfl, trivial⟩ (fun _ _ => rfl) ?_ ?_
        · rintro l19 H
          replace H : gatemake_Stream_Headers_E3 r16 l19 = some r := H
          unfold gatemake_Stream_Headers_E3 at H
          refine awp_seq ?_
          refine awp_plain hN rfl ?_
          refine seq_run0 (stp_lss rfl rfl) ?_
          refine awp_seq ?_
          refine awp_cond _ rfl (fun h => (lt_t h).elim) (fun h => ?_)
          refine awp_exit ?_
          exact ⟨(l19, r16.2.L, r16.2.at_), H, ⟨rfl, trivial⟩, ⟨rfl, rfl, trivial⟩⟩
        · rintro k20 l19 q21 h23 H hq21
          replace H : gatemake_Stream_Headers_L3 k20 l19 = some q21 := H
          unfold gatemake_Stream_Headers_L3 at H
          refine awp_seq ?_
          refine awp_plain hN rfl ?_
          refine seq_run0 (stp_lss rfl rfl) ?_
          refine awp_seq ?_
          refine awp_cond _ rfl (fun h => ?_) (fun h => (lt_f h23 h).elim)
          refine awp_skip ?_
          refine awp_seq ?_
          refine awp_block ?_
          refine awp_plain hN rfl ?_
          refine seq_run0 (stp_move (.row _ _) rfl) ?_
          refine seq_run0 (stp_dat (u' := vagg (C_api_Header (S_api_Header.mk [110] [118]))) (stp_build [(0, [vstr [110]]), (1, [vstr [118]])] tyZ32 tyP32 rfl ⟨rfl, .inl ⟨_, rfl, rfl, rfl⟩, rfl, rfl, .inl ⟨_, rfl, rfl, rfl⟩, rfl, trivial⟩) rfl) ?_
          refine seq_run0 (stp_dat (u' := vlst (List.map C_api_Header [(S_api_Header.mk [110] [118])])) (stp_lit [_] tyL26 ⟨rfl, .inr rfl, rfl, trivial⟩ rfl rfl) rfl) ?_
          obtain ⟨h24, H⟩ := gif H
          refine seq_run2 (t_app tyL26 (fun _ => rfl) rfl rfl rfl ⟨by simp, by first | (simp; done) | simpa using h24⟩ rfl) rfl ?_
          refine seq_run0 (stp_assign (.row _ _) rfl) ?_
          refine awp_plain hN rfl ?_
          refine seq_run0 (stp_add rfl rfl (by omega)) ?_
          refine seq_run0 (stp_move (.dat _) rfl) ?_
          exact ⟨_, backl H, ⟨rfl, rfl, trivial⟩, ⟨rfl, rfl, trivial⟩⟩
      · replace H := iff_ h18 H
        refine awp_skip ?_
        exact ⟨(out13, r16.2.L, r16.2.at_), H, ⟨rfl, trivial⟩, ⟨rfl, rfl, trivial⟩⟩
    · rintro ⟨out25, c26, c27⟩ H
      replace H : gatemake_Stream_Headers_J2 out25 c26 c27 = some r := H
      unfold gatemake_Stream_Headers_J2 at H
      refine awp_seq ?_
      refine awp_plain hN rfl ?_
      refine seq_run0 (stp_move (.row _ _) rfl) ?_
      refine seq_run0 (stp_assign (.row _ _) rfl) ?_
      refine awp_ret ?_
      cases H
      exact ⟨trivial, ⟨t_slotv rfl rfl, trivial⟩, rfl⟩
theorem k_message_isLetter (c1 : Int) (r : (Bool)) (H : m_message_isLetter c1 = some r) : Fn Tryz.prog 102 [vval (.int .u8 c1)] (resOf [vbool r]) := by
  refine ⟨by kernel_rfl, pure_of (us := [vbool r]) Tryz.func102 rfl rfl rfl rfl fun X hN => ?_⟩
  unfold m_message_isLetter at H
  refine awp_seq ?_
  refine awp_plain hN rfl ?_
  refine seq_run0 (stp_assign (.dat _) rfl) ?_
  refine awp_seq ?_
  refine awp_plain hN rfl ?_
  refine seq_run0 (stp_move (.dat _) rfl) ?_
  refine seq_run0 (stp_geq rfl rfl) ?_
  refine seq_run0 (stp_move (.dat _) rfl) ?_
  refine seq_aT rfl rfl (fun hc => stp_move (.dat _) rfl) ?_
  refine seq_aT rfl rfl (fun hc => stp_leq (cnd (c := (decide (97 ≤ c1))) hc) rfl) ?_
  refine seq_run0 (stp_pick_and rfl (fun hb => (cnd (c := (decide (97 ≤ c1))) hb)) rfl) ?_
  refine seq_run0 (stp_move (.dat _) rfl) ?_
  refine seq_aF rfl rfl (fun hc => stp_move (.dat _) rfl) ?_
  refine seq_aF rfl rfl (fun hc => stp_geq (cnd (c := (!((decide (97 ≤ c1)) && (decide (c1 ≤ 122))))) hc) rfl) ?_
  refine seq_aF rfl rfl (fun hc => stp_move (.dat _) (cnd (c := (!((decide (97 ≤ c1)) && (decide (c1 ≤ 122))))) hc)) ?_
  refine seq_bT rfl rfl (fun hc => stp_move (.dat _) rfl) ?_
  refine seq_bT rfl rfl (fun hc => stp_leq (cnd (c := ((!((decide (97 ≤ c1)) && (decide (c1 ≤ 122)))) && (decide (65 ≤ c1)))) hc) rfl) ?_
  refine seq_aF rfl rfl (fun hc => stp_pick_and (cnd (c := (!((decide (97 ≤ c1)) && (decide (c1 ≤ 122))))) hc) (fun hb => (cnd (c := ((!((decide (97 ≤ c1)) && (decide (c1 ≤ 122)))) && (decide (65 ≤ c1)))) (andI hc hb))) rfl) ?_
  refine seq_run0 (stp_pick_or rfl rfl (fun hb => (cnd (c := (!((decide (97 ≤ c1)) && (decide (c1 ≤ 122))))) (notI hb)))) ?_
  refine seq_run0 (stp_assign (.dat _) rfl) ?_
  refine awp_ret ?_
  cases H
  exact ⟨trivial, .inl rfl, trivial⟩
theorem k_message_isDigit (c1 : Int) (r : (Bool)) (H : m_message_isDigit c1 = some r) : Fn Tryz.prog 103 [vval (.int .u8 c1)] (resOf [vbool r]) := by
  refine ⟨by kernel_rfl, pure_of (us := [vbool r]) Tryz.func103 rfl rfl rfl rfl fun X hN => ?_⟩
  unfold m_message_isDigit at H
  refine awp_seq ?_
  refine awp_plain hN rfl ?_
  refine seq_run0 (stp_assign (.dat _) rfl) ?_
  refine awp_seq ?_
  refine awp_plain hN rfl ?_
  refine seq_run0 (stp_move (.dat _) rfl) ?_
  refine seq_run0 (stp_geq rfl rfl) ?_
  refine seq_run0 (stp_move (.dat _) rfl) ?_
  refine seq_aT rfl rfl (fun hc => stp_move (.dat _) rfl) ?_
  refine seq_aT rfl rfl (fun hc => stp_leq (cnd (c := (decide (48 ≤ c1))) hc) rfl) ?_
  refine seq_run0 (stp_pick_and rfl (fun hb => (cnd (c := (decide (48 ≤ c1))) hb)) rfl) ?_
  refine seq_run0 (stp_assign (.dat _) rfl) ?_
  refine awp_ret ?_
  cases H
  exact ⟨trivial, .inl rfl, trivial⟩
theorem k_strings_IndexByte (l : Bs) (c r : Int) (H : m_strings_IndexByte l c = some r) : Fn Tryz.prog 76 [vstr l, vval (.int .u8 c)] (resOf [vint r]) := by
  cases H
  refine fn_of_calls (by kernel_rfl) fun M w vs h => ?_
  have h1 := Ts_vals (us := [.string ⟨l.toArray⟩, .int .u8 c]) h
  subst h1
  refine (Tryz.strings_IndexByte ⟨l.toArray⟩ c w).mono ?_
  rintro e w' ⟨rfl, rfl⟩
  exact ⟨_, rfl, rfl, Kp.refl _ _⟩
theorem k_message_isTokenByte (c1 : Int) (r : (Bool)) (H : m_message_isTokenByte c1 = some r) : Fn Tryz.prog 72 [vval (.int .u8 c1)] (resOf [vbool r]) := by
  refine ⟨by kernel_rfl, pure_of (us := [vbool r]) Tryz.func72 rfl rfl rfl rfl fun X hN => ?_⟩
  unfold m_message_isTokenByte at H
  refine awp_seq ?_
  refine awp_plain hN rfl ?_
  refine seq_run0 (stp_assign (.dat _) rfl) ?_
  refine awp_joinE (ι := Bool) (fun i => [(2, .dat (vbool i))]) (fun i => []) (fun i => message_isTokenByte_J1 i = some r) (fun i => rfl) ?_ ?_
  · skip
    refine awp_plain hN rfl ?_
    refine seq_run0 (stp_move (.dat _) rfl) ?_
    obtain ⟨r2, h3, H⟩ := bnd H
    refine seq_run0 (stp_call (k_message_isLetter c1 r2 h3) ⟨.inl rfl, trivial⟩) ?_
    refine seq_run0 (stp_move (.dat _) rfl) ?_
    refine seq_split (j := 2) rfl rfl (fun h4 => ?_) (fun h4 => ?_) rfl
    · have h5 := un3 h4
      replace H := iff_ h5 H
      refine seq_g0 rfl rfl h4 (stp_move (.dat _) rfl) ?_
      obtain ⟨r6, h7, H⟩ := bnd H
      refine seq_g0 rfl rfl h4 (stp_call (k_message_isDigit c1 r6 h7) ⟨.inl rfl, trivial⟩) ?_
      refine seq_run0 (stp_pick_f rfl (bFF h5) rfl) ?_
      refine seq_run0 (stp_move (.dat _) rfl) ?_
      refine seq_split (j := 6) rfl rfl (fun h8 => ?_) (fun h8 => ?_) rfl
      · have h9 := un3 h8
        replace H := iff_ h9 H
        refine seq_g0 rfl rfl h8 (stp_move (.dat _) rfl) ?_
        obtain ⟨r10, h11, H⟩ := bnd H
        refine seq_g0 rfl rfl h8 (stp_call (k_strings_IndexByte [33, 35, 36, 37, 38, 39, 42, 43, 45, 46, 94, 95, 96, 124, 126] c1 r10 h11) ⟨.inl rfl, .inl rfl, trivial⟩) ?_
        refine seq_g0 rfl rfl h8 (stp_geq rfl rfl) ?_
        refine seq_run0 (stp_pick_f rfl (bFF h9) rfl) ?_
        refine seq_run0 (stp_assign (.dat _) rfl) ?_
        exact ⟨decide (0 ≤ r10), H, ⟨rfl, trivial⟩, trivial⟩
      · have h12 := un4 h8
        replace H := ift h12 H
        refine seq_skip rfl rfl h8 ?_
        refine seq_skip rfl rfl h8 ?_
        refine seq_skip rfl rfl h8 ?_
        refine seq_run0 (stp_pick_t rfl (bTT h12) rfl) ?_
        refine seq_run0 (stp_assign (.dat _) rfl) ?_
        exact ⟨true, H, ⟨rfl, trivial⟩, trivial⟩
    · have h13 := un4 h4
      replace H := ift h13 H
      refine seq_skip rfl rfl h4 ?_
      refine seq_skip rfl rfl h4 ?_
      refine seq_run0 (stp_pick_t rfl (bTT h13) rfl) ?_
      refine seq_run0 (stp_move (.dat _) rfl) ?_
      refine seq_skip rfl rfl rfl ?_
      refine seq_skip rfl rfl rfl ?_
      refine seq_skip rfl rfl rfl ?_
      refine seq_run0 (stp_pick_t rfl rfl rfl) ?_
      refine seq_run0 (stp_assign (.dat _) rfl) ?_
      exact ⟨true, H, ⟨rfl, trivial⟩, trivial⟩
  · rintro v14 H
    replace H : message_isTokenByte_J1 v14 = some r := H
    unfold message_isTokenByte_J1 at H
    refine awp_ret ?_
    cases H
    exact ⟨trivial, .inl rfl, trivial⟩
theorem k_message_IsToken (s1 : Bs) (r : (Bool)) (H : m_message_IsToken s1 = some r) : Fn Tryz.prog 46 [vstr s1] (resOf [vbool r]) := by
  refine ⟨by kernel_rfl, pure_of (us := [vbool r]) Tryz.func46 rfl rfl rfl rfl fun X hN => ?_⟩
  unfold m_message_IsToken at H
  refine awp_seq ?_
  refine awp_plain hN rfl ?_
  refine seq_run0 (stp_assign (.dat _) rfl) ?_
  refine awp_seq ?_
  refine awp_seq ?_
  refine awp_plain hN rfl ?_
  refine seq_run0 (stp_move (.dat _) rfl) ?_
  refine seq_run0 (stp_len_str tyU9 rfl) ?_
  refine seq_run0 (stp_move (.dat _) rfl) ?_
  refine awp_block ?_
  obtain ⟨h4, H⟩ := gif H
  refine awp_forL (fun (k2 : Nat) (s : Unit) => [(0, .dat (vstr s1)), (5, .dat (vint (s1.length : Int))), (6, .dat (vint (k2 : Int)))]) (fun (k2 : Nat) (s : Unit) => []) () H ⟨rfl, rfl, rfl, trivial⟩ trivial (fun _ _ => rfl) ?_ ?_
  · rintro ⟨⟩ H
    replace H : message_IsToken_E1 s1 = some r := H
    unfold message_IsToken_E1 at H
    refine awp_seq ?_
    refine awp_plain hN rfl ?_
    refine seq_run0 (stp_lss rfl rfl) ?_
    refine awp_seq ?_
    refine awp_cond _ rfl (fun h => (lt_t h).elim) (fun h => ?_)
    refine awp_exit ?_
    refine awp_seq ?_
    refine awp_plain hN rfl ?_
    refine seq_run0 (stp_move (.dat _) rfl) ?_
    refine seq_run0 (stp_sneq rfl rfl) ?_
    refine seq_run0 (stp_move (.dat _) rfl) ?_
    refine seq_aT rfl rfl (fun hc => stp_move (.dat _) rfl) ?_
    refine seq_aT rfl rfl (fun hc => stp_len_str tyU9 (cnd (c := (decide (s1 ≠ []))) hc)) ?_
    refine seq_aT rfl rfl (fun hc => stp_leq (cnd (c := (decide (s1 ≠ []))) hc) rfl) ?_
    refine seq_run0 (stp_pick_and rfl (fun hb => (cnd (c := (decide (s1 ≠ []))) hb)) rfl) ?_
    refine seq_run0 (stp_assign (.dat _) rfl) ?_
    refine awp_ret ?_
    cases H
    exact ⟨trivial, .inl rfl, trivial⟩
  · rintro k2 x5 ⟨⟩ q3 h6 h7 H hq3
    replace H : message_IsToken_L1 k2 x5 = some q3 := H
    unfold message_IsToken_L1 at H
    refine awp_seq ?_
    refine awp_plain hN rfl ?_
    refine seq_run0 (stp_lss rfl rfl) ?_
    refine awp_seq ?_
    refine awp_cond _ rfl (fun h => ?_) (fun h => (lt_f h6 h).elim)
    refine awp_skip ?_
    refine awp_seq ?_
    refine awp_block ?_
    refine awp_seq ?_
    refine awp_plain hN rfl ?_
    refine seq_run0 (stp_move (.dat _) rfl) ?_
    refine seq_run0 (stp_assign (.dat _) rfl) ?_
    refine awp_seq ?_
    refine awp_plain hN rfl ?_
    refine seq_run0 (stp_move (.dat _) rfl) ?_
    refine seq_run0 (stp_move (.dat _) rfl) ?_
    refine seq_run0 (t_byte tyU9 rfl rfl h7) ?_
    obtain ⟨r8, h9, H⟩ := bnd H
    refine seq_run0 (stp_call (k_message_isTokenByte (x5.toNat : Int) r8 h9) ⟨.inl rfl, trivial⟩) ?_
    refine seq_run0 (stp_not rfl) ?_
    refine awp_cond _ rfl (fun h10 => ?_) (fun h10 => ?_)
    · replace H := ift h10 H
      refine awp_seq ?_
      refine awp_plain hN rfl ?_
      refine seq_run0 (stp_assign (.dat _) rfl) ?_
      refine awp_ret ?_
      replace H := retl H hq3
      cases H
      exact ⟨trivial, .inl rfl, trivial⟩
    · replace H := iff_ h10 H
      refine awp_skip ?_
      refine awp_plain hN rfl ?_
      refine seq_run0 (stp_add rfl rfl (by omega)) ?_
      refine seq_run0 (stp_move (.dat _) rfl) ?_
      exact ⟨_, backl H, ⟨rfl, rfl, rfl, trivial⟩, trivial⟩
theorem k_message_isRange (s1 : Bs) (low2 : Int) (high3 : Int) (r : (Bool)) (H : m_message_isRange s1 low2 high3 = some r) : Fn Tryz.prog 73 [vstr s1, vval (.int .u8 low2), vval (.int .u8 high3)] (resOf [vbool r]) := by
  refine ⟨by kernel_rfl, pure_of (us := [vbool r]) Tryz.func73 rfl rfl rfl rfl fun X hN => ?_⟩
  unfold m_message_isRange at H
  refine awp_seq ?_
  refine awp_plain hN rfl ?_
  refine seq_run0 (stp_assign (.dat _) rfl) ?_
  refine awp_seq ?_
  refine awp_seq ?_
  refine awp_plain hN rfl ?_
  refine seq_run0 (stp_move (.dat _) rfl) ?_
  refine seq_run0 (stp_len_str tyU9 rfl) ?_
  refine seq_run0 (stp_move (.dat _) rfl) ?_
  refine awp_block ?_
  obtain ⟨h6, H⟩ := gif H
  refine awp_forL (fun (k4 : Nat) (s : Unit) => [(0, .dat (vstr s1)), (1, .dat (vval (.int .u8 low2))), (2, .dat (vval (.int .u8 high3))), (9, .dat (vint (s1.length : Int))), (10, .dat (vint (k4 : Int)))]) (fun (k4 : Nat) (s : Unit) => []) () H ⟨rfl, rfl, rfl, rfl, rfl, trivial⟩ trivial (fun _ _ => rfl) ?_ ?_
  · rintro ⟨⟩ H
    replace H : message_isRange_E1 = some r := H
    unfold message_isRange_E1 at H
    refine awp_seq ?_
    refine awp_plain hN rfl ?_
    refine seq_run0 (stp_lss rfl rfl) ?_
    refine awp_seq ?_
    refine awp_cond _ rfl (fun h => (lt_t h).elim) (fun h => ?_)
    refine awp_exit ?_
    refine awp_seq ?_
    refine awp_plain hN rfl ?_
    refine seq_run0 (stp_assign (.dat _) rfl) ?_
    refine awp_ret ?_
    cases H
    exact ⟨trivial, .inl rfl, trivial⟩
  · rintro k4 x7 ⟨⟩ q5 h8 h9 H hq5
    replace H : message_isRange_L1 low2 high3 k4 x7 = some q5 := H
    unfold message_isRange_L1 at H
    refine awp_seq ?_
    refine awp_plain hN rfl ?_
    refine seq_run0 (stp_lss rfl rfl) ?_
    refine awp_seq ?_
    refine awp_cond _ rfl (fun h => ?_) (fun h => (lt_f h8 h).elim)
    refine awp_skip ?_
    refine awp_seq ?_
    refine awp_block ?_
    refine awp_seq ?_
    refine awp_plain hN rfl ?_
    refine seq_run0 (stp_move (.dat _) rfl) ?_
    refine seq_run0 (stp_assign (.dat _) rfl) ?_
    refine awp_joinE (ι := Bool) (fun i => [(0, .dat (vstr s1)), (1, .dat (vval (.int .u8 low2))), (2, .dat (vval (.int .u8 high3))), (9, .dat (vint (s1.length : Int))), (10, .dat (vint (k4 : Int))), (24, .dat (vbool i))]) (fun i => []) (fun i => message_isRange_J2 i = some q5) (fun i => rfl) ?_ ?_
    · skip
      refine awp_plain hN rfl ?_
      refine seq_run0 (stp_move (.dat _) rfl) ?_
      refine seq_run0 (stp_move (.dat _) rfl) ?_
      refine seq_run0 (t_byte tyU9 rfl rfl h9) ?_
      refine seq_run0 (stp_move (.dat _) rfl) ?_
      refine seq_run0 (stp_lss rfl rfl) ?_
      refine seq_run0 (stp_move (.dat _) rfl) ?_
      refine seq_split (j := 5) rfl rfl (fun h10 => ?_) (fun h10 => ?_) rfl
      · have h11 := un3 h10
        replace H := iff_ h11 H
        refine seq_g0 rfl rfl h10 (stp_move (.dat _) rfl) ?_
        refine seq_g0 rfl rfl h10 (stp_move (.dat _) rfl) ?_
        refine seq_g0 rfl rfl h10 (t_byte tyU9 rfl rfl h9) ?_
        refine seq_g0 rfl rfl h10 (stp_move (.dat _) rfl) ?_
        refine seq_g0 rfl rfl h10 (stp_gtr rfl rfl) ?_
        refine seq_run0 (stp_pick_f rfl (bFF h11) rfl) ?_
        exact ⟨decide (high3 < (x7.toNat : Int)), H, ⟨rfl, rfl, rfl, rfl, rfl, rfl, trivial⟩, trivial⟩
      · have h12 := un4 h10
        replace H := ift h12 H
        refine seq_skip rfl rfl h10 ?_
        refine seq_skip rfl rfl h10 ?_
        refine seq_skip rfl rfl h10 ?_
        refine seq_skip rfl rfl h10 ?_
        refine seq_skip rfl rfl h10 ?_
        refine seq_run0 (stp_pick_t rfl (bTT h12) rfl) ?_
        exact ⟨true, H, ⟨rfl, rfl, rfl, rfl, rfl, rfl, trivial⟩, trivial⟩
    · rintro v13 H
      replace H : message_isRange_J2 v13 = some q5 := H
      unfold message_isRange_J2 at H
      refine awp_cond _ rfl (fun h14 => ?_) (fun h14 => ?_)
      · replace H := ift h14 H
        refine awp_seq ?_
        refine awp_plain hN rfl ?_
        refine seq_run0 (stp_assign (.dat _) rfl) ?_
        refine awp_ret ?_
        replace H := retl H hq5
        cases H
        exact ⟨trivial, .inl rfl, trivial⟩
      · replace H := iff_ h14 H
        refine awp_skip ?_
        refine awp_plain hN rfl ?_
        refine seq_run0 (stp_add rfl rfl (by omega)) ?_
        refine seq_run0 (stp_move (.dat _) rfl) ?_
        exact ⟨_, backl H, ⟨rfl, rfl, rfl, rfl, rfl, trivial⟩, trivial⟩
theorem k_strings_trimRightByte (s1 : Bs) (c2 : Int) (r : (Bs)) (H : m_strings_trimRightByte s1 c2 = some r) : Fn Tryz.prog 78 [vstr s1, vval (.int .u8 c2)] (resOf [vstr r]) := by
  refine ⟨by kernel_rfl, pure_of (us := [vstr r]) Tryz.func78 rfl rfl rfl rfl fun X hN => ?_⟩
  unfold m_strings_trimRightByte at H
  refine awp_seq ?_
  refine awp_plain hN rfl ?_
  refine seq_run0 (stp_assign (.dat _) rfl) ?_
  refine awp_joinE (ι := Bs) (fun i => [(0, .dat (vstr i))]) (fun i => []) (fun i => strings_trimRightByte_J1 i = some r) (fun i => rfl) ?_ ?_
  · skip
    refine awp_block ?_
    refine awp_iter (fun (s : Bs) => [(0, .dat (vstr s)), (1, .dat (vval (.int .u8 c2)))]) (fun (s : Bs) => []) s1 H ⟨rfl, rfl, trivial⟩ trivial (fun _ => rfl) ?_
    rintro s3 q4 H hq4
    replace H : strings_trimRightByte_L2 c2 s3 = some q4 := H
    unfold strings_trimRightByte_L2 at H
    refine awp_seq ?_
    refine awp_joinE (ι := Bool) (fun i => [(0, .dat (vstr s3)), (1, .dat (vval (.int .u8 c2))), (16, .dat (vbool i))]) (fun i => []) (fun i => strings_trimRightByte_J3 s3 i = some q4) (fun i => rfl) ?_ ?_
    · skip
      refine awp_plain hN rfl ?_
      refine seq_run0 (stp_move (.dat _) rfl) ?_
      refine seq_run0 (stp_len_str tyU9 rfl) ?_
      refine seq_run0 (stp_gtr rfl rfl) ?_
      refine seq_run0 (stp_move (.dat _) rfl) ?_
      refine seq_split (j := 3) rfl rfl (fun h5 => ?_) (fun h5 => ?_) rfl
      · have h6 := un1 h5
        replace H := ift h6 H
        refine seq_g0 rfl rfl h5 (stp_move (.dat _) rfl) ?_
        refine seq_g0 rfl rfl h5 (stp_move (.dat _) rfl) ?_
        refine seq_g0 rfl rfl h5 (stp_len_str tyU9 rfl) ?_
        refine seq_g0 rfl rfl h5 (stp_wrap _ rfl rfl (.inr (.inl ⟨rfl, rfl⟩))) ?_
        obtain ⟨x7, h8, H⟩ := bnd H
        refine seq_g0 rfl rfl h5 (t_byteI tyU9 rfl rfl h8) ?_
        refine seq_g0 rfl rfl h5 (stp_move (.dat _) rfl) ?_
        refine seq_g0 rfl rfl h5 (stp_eql rfl rfl) ?_
        refine seq_run0 (stp_pick_t rfl (bTT h6) rfl) ?_
        exact ⟨decide ((x7.toNat : Int) = c2), H, ⟨rfl, rfl, rfl, trivial⟩, trivial⟩
      · have h9 := un2 h5
        replace H := iff_ h9 H
        refine seq_skip rfl rfl h5 ?_
        refine seq_skip rfl rfl h5 ?_
        refine seq_skip rfl rfl h5 ?_
        refine seq_skip rfl rfl h5 ?_
        refine seq_skip rfl rfl h5 ?_
        refine seq_skip rfl rfl h5 ?_
        refine seq_skip rfl rfl h5 ?_
        refine seq_run0 (stp_pick_f rfl (bFF h9) rfl) ?_
        exact ⟨false, H, ⟨rfl, rfl, rfl, trivial⟩, trivial⟩
    · rintro v10 H
      replace H : strings_trimRightByte_J3 s3 v10 = some q4 := H
      unfold strings_trimRightByte_J3 at H
      refine awp_cond _ rfl (fun h11 => ?_) (fun h11 => ?_)
      · replace H := ift h11 H
        refine awp_skip ?_
        refine awp_block ?_
        refine awp_plain hN rfl ?_
        refine seq_run0 (stp_move (.dat _) rfl) ?_
        refine seq_run0 (stp_move (.dat _) rfl) ?_
        refine seq_run0 (stp_len_str tyU9 rfl) ?_
        refine seq_run0 (stp_wrap _ rfl rfl (.inr (.inl ⟨rfl, rfl⟩))) ?_
        obtain ⟨l12, h13, H⟩ := bnd H
        refine seq_run0 (t_subS tyU9 rfl rfl rfl h13) ?_
        refine seq_run0 (stp_assign (.dat _) rfl) ?_
        exact ⟨_, backl H, ⟨rfl, rfl, trivial⟩, trivial⟩
      · replace H := iff_ h11 H
        refine awp_exit ?_
        replace H := outl H hq4
        exact ⟨s3, H, ⟨rfl, trivial⟩, trivial⟩
  · rintro s14 H
    replace H : strings_trimRightByte_J1 s14 = some r := H
    unfold strings_trimRightByte_J1 at H
    refine awp_seq ?_
    refine awp_plain hN rfl ?_
    refine seq_run0 (stp_move (.dat _) rfl) ?_
    refine seq_run0 (stp_assign (.dat _) rfl) ?_
    refine awp_ret ?_
    cases H
    exact ⟨trivial, .inl rfl, trivial⟩
theorem k_strings_trimLeftByte (s1 : Bs) (c2 : Int) (r : (Bs)) (H : m_strings_trimLeftByte s1 c2 = some r) : Fn Tryz.prog 77 [vstr s1, vval (.int .u8 c2)] (resOf [vstr r]) := by
  refine ⟨by kernel_rfl, pure_of (us := [vstr r]) Tryz.func77 rfl rfl rfl rfl fun X hN => ?_⟩
  unfold m_strings_trimLeftByte at H
  refine awp_seq ?_
  refine awp_plain hN rfl ?_
  refine seq_run0 (stp_assign (.dat _) rfl) ?_
  refine awp_joinE (ι := Bs) (fun i => [(0, .dat (vstr i))]) (fun i => []) (fun i => strings_trimLeftByte_J1 i = some r) (fun i => rfl) ?_ ?_
  · skip
    refine awp_block ?_
    refine awp_iter (fun (s : Bs) => [(0, .dat (vstr s)), (1, .dat (vval (.int .u8 c2)))]) (fun (s : Bs) => []) s1 H ⟨rfl, rfl, trivial⟩ trivial (fun _ => rfl) ?_
    rintro s3 q4 H hq4
    replace H : strings_trimLeftByte_L2 c2 s3 = some q4 := H
    unfold strings_trimLeftByte_L2 at H
    refine awp_seq ?_
    refine awp_joinE (ι := Bool) (fun i => [(0, .dat (vstr s3)), (1, .dat (vval (.int .u8 c2))), (13, .dat (vbool i))]) (fun i => []) (fun i => strings_trimLeftByte_J3 s3 i = some q4) (fun i => rfl) ?_ ?_
    · skip
      refine awp_plain hN rfl ?_
      refine seq_run0 (stp_move (.dat _) rfl) ?_
      refine seq_run0 (stp_len_str tyU9 rfl) ?_
      refine seq_run0 (stp_gtr rfl rfl) ?_
      refine seq_run0 (stp_move (.dat _) rfl) ?_
      refine seq_split (j := 3) rfl rfl (fun h5 => ?_) (fun h5 => ?_) rfl
      · have h6 := un1 h5
        replace H := ift h6 H
        refine seq_g0 rfl rfl h5 (stp_move (.dat _) rfl) ?_
        obtain ⟨x7, h8, H⟩ := bnd H
        refine seq_g0 rfl rfl h5 (t_byte tyU9 rfl rfl h8) ?_
        refine seq_g0 rfl rfl h5 (stp_move (.dat _) rfl) ?_
        refine seq_g0 rfl rfl h5 (stp_eql rfl rfl) ?_
        refine seq_run0 (stp_pick_t rfl (bTT h6) rfl) ?_
        exact ⟨decide ((x7.toNat : Int) = c2), H, ⟨rfl, rfl, rfl, trivial⟩, trivial⟩
      · have h9 := un2 h5
        replace H := iff_ h9 H
        refine seq_skip rfl rfl h5 ?_
        refine seq_skip rfl rfl h5 ?_
        refine seq_skip rfl rfl h5 ?_
        refine seq_skip rfl rfl h5 ?_
        refine seq_run0 (stp_pick_f rfl (bFF h9) rfl) ?_
        exact ⟨false, H, ⟨rfl, rfl, rfl, trivial⟩, trivial⟩
    · rintro v10 H
      replace H : strings_trimLeftByte_J3 s3 v10 = some q4 := H
      unfold strings_trimLeftByte_J3 at H
      refine awp_cond _ rfl (fun h11 => ?_) (fun h11 => ?_)
      · replace H := ift h11 H
        refine awp_skip ?_
        refine awp_block ?_
        refine awp_plain hN rfl ?_
        refine seq_run0 (stp_move (.dat _) rfl) ?_
        obtain ⟨l12, h13, H⟩ := bnd H
        refine seq_run0 (t_subS tyU9 rfl rfl rfl h13) ?_
        refine seq_run0 (stp_assign (.dat _) rfl) ?_
        exact ⟨_, backl H, ⟨rfl, rfl, trivial⟩, trivial⟩
      · replace H := iff_ h11 H
        refine awp_exit ?_
        replace H := outl H hq4
        exact ⟨s3, H, ⟨rfl, trivial⟩, trivial⟩
  · rintro s14 H
    replace H : strings_trimLeftByte_J1 s14 = some r := H
    unfold strings_trimLeftByte_J1 at H
    refine awp_seq ?_
    refine awp_plain hN rfl ?_
    refine seq_run0 (stp_move (.dat _) rfl) ?_
    refine seq_run0 (stp_assign (.dat _) rfl) ?_
    refine awp_ret ?_
    cases H
    exact ⟨trivial, .inl rfl, trivial⟩
theorem k_strings_Trim (s1 : Bs) (cutset2 : Bs) (r : (Bs)) (H : m_strings_Trim s1 cutset2 = some r) : Fn Tryz.prog 53 [vstr s1, vstr cutset2] (resOf [vstr r]) := by
  refine ⟨by kernel_rfl, pure_of (us := [vstr r]) Tryz.func53 rfl rfl rfl rfl fun X hN => ?_⟩
  unfold m_strings_Trim at H
  refine awp_seq ?_
  refine awp_plain hN rfl ?_
  refine seq_run0 (stp_assign (.dat _) rfl) ?_
  refine awp_seq ?_
  refine awp_seq ?_
  refine awp_plain hN rfl ?_
  refine seq_run0 (stp_move (.dat _) rfl) ?_
  refine seq_run0 (stp_seql rfl rfl) ?_
  refine seq_run0 (stp_move (.dat _) rfl) ?_
  refine seq_aF rfl rfl (fun hc => stp_move (.dat _) rfl) ?_
  refine seq_aF rfl rfl (fun hc => stp_seql (cnd (c := (!(decide (s1 = [])))) hc) rfl) ?_
  refine seq_run0 (stp_pick_or rfl rfl (fun hb => (cnd (c := (!(decide (s1 = [])))) (notI hb)))) ?_
  refine awp_cond _ rfl (fun h3 => ?_) (fun h3 => ?_)
  · replace H := ift h3 H
    refine awp_seq ?_
    refine awp_plain hN rfl ?_
    refine seq_run0 (stp_move (.dat _) rfl) ?_
    refine seq_run0 (stp_assign (.dat _) rfl) ?_
    refine awp_ret ?_
    cases H
    exact ⟨trivial, .inl rfl, trivial⟩
  · replace H := iff_ h3 H
    refine awp_skip ?_
    refine awp_seq ?_
    refine awp_joinE (ι := Bool) (fun i => [(0, .dat (vstr s1)), (1, .dat (vstr cutset2)), (21, .dat (vbool i))]) (fun i => []) (fun i => strings_Trim_J1 s1 cutset2 i = some r) (fun i => rfl) ?_ ?_
    · skip
      refine awp_plain hN rfl ?_
      refine seq_run0 (stp_move (.dat _) rfl) ?_
      refine seq_run0 (stp_len_str tyU9 rfl) ?_
      refine seq_run0 (stp_eql rfl rfl) ?_
      refine seq_run0 (stp_move (.dat _) rfl) ?_
      refine seq_split (j := 3) rfl rfl (fun h4 => ?_) (fun h4 => ?_) rfl
      · have h5 := un1 h4
        replace H := ift h5 H
        refine seq_g0 rfl rfl h4 (stp_move (.dat _) rfl) ?_
        obtain ⟨x6, h7, H⟩ := bnd H
        refine seq_g0 rfl rfl h4 (t_byte tyU9 rfl rfl h7) ?_
        refine seq_g0 rfl rfl h4 (stp_lss rfl rfl) ?_
        refine seq_run0 (stp_pick_t rfl (bTT h5) rfl) ?_
        exact ⟨decide ((x6.toNat : Int) < 128), H, ⟨rfl, rfl, rfl, trivial⟩, trivial⟩
      · have h8 := un2 h4
        replace H := iff_ h8 H
        refine seq_skip rfl rfl h4 ?_
        refine seq_skip rfl rfl h4 ?_
        refine seq_skip rfl rfl h4 ?_
        refine seq_run0 (stp_pick_f rfl (bFF h8) rfl) ?_
        exact ⟨false, H, ⟨rfl, rfl, rfl, trivial⟩, trivial⟩
    · rintro v9 H
      replace H : strings_Trim_J1 s1 cutset2 v9 = some r := H
      unfold strings_Trim_J1 at H
      refine awp_cond _ rfl (fun h10 => ?_) (fun h10 => ?_)
      · replace H := ift h10 H
        refine awp_seq ?_
        refine awp_draw mixed hN rfl rfl ?_
        refine seq_run0 (stp_move (.dat _) rfl) ?_
        refine seq_run0 (stp_move (.dat _) rfl) ?_
        obtain ⟨x11, h12, H⟩ := bnd H
        refine seq_run0 (t_byte tyU9 rfl rfl h12) ?_
        obtain ⟨r13, h14, H⟩ := bnd H
        refine seq_run0 (stp_call (k_strings_trimRightByte s1 (x11.toNat : Int) r13 h14) ⟨.inl rfl, .inl rfl, trivial⟩) ?_
        refine seq_run0 (stp_move (.dat _) rfl) ?_
        refine seq_run0 (t_byte tyU9 rfl rfl h12) ?_
        obtain ⟨r15, h16, H⟩ := bnd H
        refine seq_run0 (stp_call (k_strings_trimLeftByte r13 (x11.toNat : Int) r15 h16) ⟨.inl rfl, .inl rfl, trivial⟩) ?_
        refine seq_run0 (stp_assign (.dat _) rfl) ?_
        refine ⟨rfl, ?_⟩
        refine awp_ret ?_
        cases H
        exact ⟨trivial, .inl rfl, trivial⟩
      · replace H := iff_ h10 H
        cases H
theorem k_message_IsField (s1 : Bs) (r : (Bool)) (H : m_message_IsField s1 = some r) : Fn Tryz.prog 47 [vstr s1] (resOf [vbool r]) := by
  refine ⟨by kernel_rfl, pure_of (us := [vbool r]) Tryz.func47 rfl rfl rfl rfl fun X hN => ?_⟩
  unfold m_message_IsField at H
  refine awp_seq ?_
  refine awp_plain hN rfl ?_
  refine seq_run0 (stp_assign (.dat _) rfl) ?_
  refine awp_joinE (ι := Bool) (fun i => [(2, .dat (vbool i))]) (fun i => []) (fun i => message_IsField_J1 i = some r) (fun i => rfl) ?_ ?_
  · skip
    refine awp_plain hN rfl ?_
    refine seq_run0 (stp_move (.dat _) rfl) ?_
    refine seq_run0 (stp_len_str tyU9 rfl) ?_
    refine seq_run0 (stp_leq rfl rfl) ?_
    refine seq_run0 (stp_move (.dat _) rfl) ?_
    refine seq_split (j := 3) rfl rfl (fun h2 => ?_) (fun h2 => ?_) rfl
    · have h3 := un1 h2
      replace H := ift h3 H
      refine seq_g0 rfl rfl h2 (stp_move (.dat _) rfl) ?_
      obtain ⟨r4, h5, H⟩ := bnd H
      refine seq_g0 rfl rfl h2 (stp_call (k_message_isRange s1 32 126 r4 h5) ⟨.inl rfl, .inl rfl, .inl rfl, trivial⟩) ?_
      refine seq_run0 (stp_pick_t rfl (bTT h3) rfl) ?_
      refine seq_run0 (stp_move (.dat _) rfl) ?_
      refine seq_split (j := 7) rfl rfl (fun h6 => ?_) (fun h6 => ?_) rfl
      · have h7 := un1 h6
        replace H := ift h7 H
        refine seq_g0 rfl rfl h6 (stp_move (.dat _) rfl) ?_
        obtain ⟨r8, h9, H⟩ := bnd H
        refine seq_g0 rfl rfl h6 (stp_call (k_strings_Trim s1 [32] r8 h9) ⟨.inl rfl, .inl rfl, trivial⟩) ?_
        refine seq_g0 rfl rfl h6 (stp_move (.dat _) rfl) ?_
        refine seq_g0 rfl rfl h6 (stp_seql rfl rfl) ?_
        refine seq_run0 (stp_pick_t rfl (bTT h7) rfl) ?_
        refine seq_run0 (stp_assign (.dat _) rfl) ?_
        exact ⟨decide (r8 = s1), H, ⟨rfl, trivial⟩, trivial⟩
      · have h10 := un2 h6
        replace H := iff_ h10 H
        refine seq_skip rfl rfl h6 ?_
        refine seq_skip rfl rfl h6 ?_
        refine seq_skip rfl rfl h6 ?_
        refine seq_skip rfl rfl h6 ?_
        refine seq_run0 (stp_pick_f rfl (bFF h10) rfl) ?_
        refine seq_run0 (stp_assign (.dat _) rfl) ?_
        exact ⟨false, H, ⟨rfl, trivial⟩, trivial⟩
    · have h11 := un2 h2
      replace H := iff_ h11 H
      refine seq_skip rfl rfl h2 ?_
      refine seq_skip rfl rfl h2 ?_
      refine seq_run0 (stp_pick_f rfl (bFF h11) rfl) ?_
      refine seq_run0 (stp_move (.dat _) rfl) ?_
      refine seq_skip rfl rfl rfl ?_
      refine seq_skip rfl rfl rfl ?_
      refine seq_skip rfl rfl rfl ?_
      refine seq_skip rfl rfl rfl ?_
      refine seq_run0 (stp_pick_f rfl rfl rfl) ?_
      refine seq_run0 (stp_assign (.dat _) rfl) ?_
      exact ⟨false, H, ⟨rfl, trivial⟩, trivial⟩
  · rintro v12 H
    replace H : message_IsField_J1 v12 = some r := H
    unfold message_IsField_J1 at H
    refine awp_ret ?_
    cases H
    exact ⟨trivial, .inl rfl, trivial⟩
theorem k_message_CheckHeaders (l1 : (List S_api_Header)) (r : (Int)) (H : m_message_CheckHeaders l1 = some r) : Fn Tryz.prog 23 [vlst (List.map C_api_Header l1)] (resOf [vint r]) := by
  refine ⟨by kernel_rfl, pure_of (us := [vint r]) Tryz.func23 rfl rfl rfl rfl fun X hN => ?_⟩
  unfold m_message_CheckHeaders at H
  refine awp_seq ?_
  refine awp_plain hN rfl ?_
  refine seq_run0 (stp_assign (.dat _) rfl) ?_
  refine awp_seq ?_
  refine awp_seq ?_
  refine awp_plain hN rfl ?_
  refine seq_run0 (stp_move (.dat _) rfl) ?_
  refine seq_run0 (t_len tyU26 rfl) ?_
  refine seq_run0 (stp_gtr rfl rfl) ?_
  refine awp_cond _ rfl (fun h2 => ?_) (fun h2 => ?_)
  · replace H := ift h2 H
    refine awp_seq ?_
    refine awp_plain hN rfl ?_
    refine seq_run0 (stp_assign (.dat _) rfl) ?_
    refine awp_ret ?_
    cases H
    exact ⟨trivial, .inl rfl, trivial⟩
  · replace H := iff_ h2 H
    refine awp_skip ?_
    refine awp_seq ?_
    refine awp_seq ?_
    refine awp_plain hN rfl ?_
    refine seq_run0 (stp_move (.dat _) rfl) ?_
    refine seq_run0 (t_len tyU26 rfl) ?_
    refine seq_run0 (stp_move (.dat _) rfl) ?_
    refine awp_block ?_
    obtain ⟨h5, H⟩ := gif H
    refine awp_forL (fun (k3 : Nat) (s : Unit) => [(8, .dat (vlst (List.map C_api_Header l1))), (9, .dat (vint (l1.length : Int))), (10, .dat (vint (k3 : Int)))]) (fun (k3 : Nat) (s : Unit) => []) () H ⟨rfl, rfl, rfl, trivial⟩ trivial (fun _ _ => rfl) ?_ ?_
    · rintro ⟨⟩ H
      replace H : message_CheckHeaders_E1 = some r := H
      unfold message_CheckHeaders_E1 at H
      refine awp_seq ?_
      refine awp_plain hN rfl ?_
      refine seq_run0 (stp_lss rfl rfl) ?_
      refine awp_seq ?_
      refine awp_cond _ rfl (fun h => (lt_t h).elim) (fun h => ?_)
      refine awp_exit ?_
      refine awp_seq ?_
      refine awp_plain hN rfl ?_
      refine seq_run0 (stp_assign (.dat _) rfl) ?_
      refine awp_ret ?_
      cases H
      exact ⟨trivial, .inl rfl, trivial⟩
    · rintro k3 x6 ⟨⟩ q4 h7 h8 H hq4
      replace H : message_CheckHeaders_L1 k3 x6 = some q4 := H
      unfold message_CheckHeaders_L1 at H
      refine awp_seq ?_
      refine awp_plain hN rfl ?_
      refine seq_run0 (stp_lss rfl rfl) ?_
      refine awp_seq ?_
      refine awp_cond _ rfl (fun h => ?_) (fun h => (lt_f h7 h).elim)
      refine awp_skip ?_
      refine awp_seq ?_
      refine awp_block ?_
      refine awp_seq ?_
      refine awp_plain hN rfl ?_
      refine seq_run0 (t_idx tyE26 (fun _ => rfl) rfl rfl h8) ?_
      refine seq_run0 (stp_loadEA tyS32 rfl (map_at h8) rfl) ?_
      refine seq_run2 (stp_alloc 1 tyZ32 rfl) rfl ?_
      refine seq_run2 (stp_storeW tyS32 rfl rfl rfl rfl) rfl ?_
      refine awp_seq ?_
      refine awp_seq ?_
      refine awp_plain hN rfl ?_
      refine seq_run0 (stp_fldP tyF32_0 rfl) ?_
      refine seq_run1 (stp_load1 tyS9 rfl rfl) rfl ?_
      obtain ⟨r9, h10, H⟩ := bnd H
      refine seq_run0 (stp_call (k_message_IsToken x6.Name r9 h10) ⟨.inl rfl, trivial⟩) ?_
      refine seq_run0 (stp_not rfl) ?_
      refine awp_cond _ rfl (fun h11 => ?_) (fun h11 => ?_)
      · replace H := ift h11 H
        refine awp_seq ?_
        refine awp_plain hN rfl ?_
        refine seq_run0 (stp_assign (.dat _) rfl) ?_
        refine awp_ret ?_
        replace H := retl H hq4
        cases H
        exact ⟨trivial, .inl rfl, trivial⟩
      · replace H := iff_ h11 H
        refine awp_skip ?_
        refine awp_seq ?_
        refine awp_plain hN rfl ?_
        refine seq_run0 (stp_fldP tyF32_1 rfl) ?_
        refine seq_run1 (stp_load1 tyS9 rfl rfl) rfl ?_
        obtain ⟨r12, h13, H⟩ := bnd H
        refine seq_run0 (stp_call (k_message_IsField x6.Value r12 h13) ⟨.inl rfl, trivial⟩) ?_
        refine seq_run0 (stp_not rfl) ?_
        refine awp_cond _ rfl (fun h14 => ?_) (fun h14 => ?_)
        · replace H := ift h14 H
          refine awp_seq ?_
          refine awp_plain hN rfl ?_
          refine seq_run0 (stp_assign (.dat _) rfl) ?_
          refine awp_ret ?_
          replace H := retl H hq4
          cases H
          exact ⟨trivial, .inl rfl, trivial⟩
        · replace H := iff_ h14 H
          refine awp_skip ?_
          refine awp_plain hN rfl ?_
          refine seq_run0 (stp_add rfl rfl (by omega)) ?_
          refine seq_run0 (stp_move (.dat _) rfl) ?_
          exact ⟨_, backl H, ⟨rfl, rfl, rfl, trivial⟩, trivial⟩
theorem k_cache_numbers (qb : Nat) (r : ((List Bs) × (List Int))) (H : m_cache_numbers  = some r) : Fn Tryz.prog 39 [vval (.pointer (some ⟨qb, 0, none⟩))] (resOf [vlst (List.map C_string r.1), vlst (List.map (CP qb) r.2)]) := by
  refine ⟨by kernel_rfl, pure_of (us := [vlst (List.map C_string r.1), vlst (List.map (CP qb) r.2)]) Tryz.func39 rfl rfl rfl rfl fun X hN => ?_⟩
  unfold m_cache_numbers at H
  refine awp_seq ?_
  refine awp_plain hN rfl ?_
  refine seq_run0 (stp_assign (.dat _) rfl) ?_
  refine seq_run0 (stp_assign (.dat _) rfl) ?_
  refine awp_seq ?_
  refine awp_draw mixed hN rfl rfl ?_
  refine seq_run0 (stp_dat (u' := vlst (List.map C_string [[109, 97, 120, 45, 97, 103, 101], [115, 45, 109, 97, 120, 97, 103, 101], [115, 116, 97, 108, 101, 45, 119, 104, 105, 108, 101, 45, 114, 101, 118, 97, 108, 105, 100, 97, 116, 101], [115, 116, 97, 108, 101, 45, 105, 102, 45, 101, 114, 114, 111, 114], [109, 97, 120, 45, 115, 116, 97, 108, 101], [109, 105, 110, 45, 102, 114, 101, 115, 104]])) (stp_lit [[_], [_], [_], [_], [_], [_]] tyL46 ⟨rfl, .inl ⟨_, rfl, rfl, rfl⟩, rfl, rfl, .inl ⟨_, rfl, rfl, rfl⟩, rfl, rfl, .inl ⟨_, rfl, rfl, rfl⟩, rfl, rfl, .inl ⟨_, rfl, rfl, rfl⟩, rfl, rfl, .inl ⟨_, rfl, rfl, rfl⟩, rfl, rfl, .inl ⟨_, rfl, rfl, rfl⟩, rfl, trivial⟩ rfl rfl) rfl) ?_
  refine seq_run0 (stp_move (.dat _) rfl) ?_
  refine seq_run0 (stp_nilQ rfl) ?_
  refine seq_run0 (stp_fldQ tyF34_6 rfl) ?_
  refine seq_run0 (stp_move (.dat _) rfl) ?_
  refine seq_run0 (stp_nilQ rfl) ?_
  refine seq_run0 (stp_fldQ tyF34_7 rfl) ?_
  refine seq_run0 (stp_move (.dat _) rfl) ?_
  refine seq_run0 (stp_nilQ rfl) ?_
  refine seq_run0 (stp_fldQ tyF34_8 rfl) ?_
  refine seq_run0 (stp_move (.dat _) rfl) ?_
  refine seq_run0 (stp_nilQ rfl) ?_
  refine seq_run0 (stp_fldQ tyF34_9 rfl) ?_
  refine seq_run0 (stp_move (.dat _) rfl) ?_
  refine seq_run0 (stp_nilQ rfl) ?_
  refine seq_run0 (stp_fldQ tyF34_10 rfl) ?_
  refine seq_run0 (stp_move (.dat _) rfl) ?_
  refine seq_run0 (stp_nilQ rfl) ?_
  refine seq_run0 (stp_fldQ tyF34_11 rfl) ?_
  refine seq_run0 (stp_dat (u' := vlst (List.map (CP qb) ([6, 7, 8, 9, 10, 11] : List Int))) (stp_lit [[_], [_], [_], [_], [_], [_]] tyL49 ⟨rfl, .inl ⟨_, rfl, rfl, rfl⟩, rfl, rfl, .inl ⟨_, rfl, rfl, rfl⟩, rfl, rfl, .inl ⟨_, rfl, rfl, rfl⟩, rfl, rfl, .inl ⟨_, rfl, rfl, rfl⟩, rfl, rfl, .inl ⟨_, rfl, rfl, rfl⟩, rfl, rfl, .inl ⟨_, rfl, rfl, rfl⟩, rfl, trivial⟩ rfl rfl) rfl) ?_
  refine seq_run0 (stp_assign (.dat _) rfl) ?_
  refine seq_run0 (stp_assign (.dat _) rfl) ?_
  refine ⟨rfl, ?_⟩
  refine awp_ret ?_
  cases H
  exact ⟨trivial, .inl rfl, .inl rfl, trivial⟩
theorem k_strings_EqualFold (s t : Bs) (r : Bool) (H : m_strings_EqualFold s t = some r) : Fn Tryz.prog 104 [vstr s, vstr t] (resOf [vbool r]) := by
  unfold m_strings_EqualFold at H
  obtain ⟨⟨h1, h2, h3⟩, h4⟩ := gif H
  cases h4
  refine fn_of_callsG (by kernel_rfl) fun M w vs hM h => ?_
  have hv := Ts_vals (us := [.string ⟨s.toArray⟩, .string ⟨t.toArray⟩]) h
  subst hv
  refine (Tryz.strings_EqualFold ⟨s.toArray⟩ ⟨t.toArray⟩ w (by simp [ByteArray.size]; omega) (fun j b hb => ascB_at h2 j b (by simpa using hb)) (fun j b hb => ascB_at h3 j b (by simpa using hb))).mono ?_
  rintro e w' ⟨rfl, rfl⟩
  exact ⟨_, rfl, rfl, Kp.refl _ _⟩

theorem k_message_isNamed (h1 : S_api_Header) (name2 : Bs) (r : (Bool)) (H : m_message_isNamed h1 name2 = some r) : Fn Tryz.prog 74 [vagg (C_api_Header h1), vstr name2] (resOf [vbool r]) := by
  refine ⟨by kernel_rfl, pure_of (us := [vbool r]) Tryz.func74 rfl rfl rfl rfl fun X hN => ?_⟩
  unfold m_message_isNamed at H
  refine awp_seq ?_
  refine awp_plain hN rfl ?_
  refine seq_run2 (stp_boxA 1 rfl) rfl ?_
  refine seq_run0 (stp_assign (.dat _) rfl) ?_
  refine awp_seq ?_
  refine awp_plain hN rfl ?_
  refine seq_run0 (stp_fldP tyF32_0 rfl) ?_
  refine seq_run1 (stp_load1 tyS9 rfl rfl) rfl ?_
  refine seq_run0 (stp_move (.dat _) rfl) ?_
  obtain ⟨r3, h4, H⟩ := bnd H
  refine seq_run0 (stp_call (k_strings_EqualFold h1.Name name2 r3 h4) ⟨.inl rfl, .inl rfl, trivial⟩) ?_
  refine seq_run0 (stp_assign (.dat _) rfl) ?_
  refine awp_ret ?_
  cases H
  exact ⟨trivial, .inl rfl, trivial⟩
theorem k_message_Values (l1 : (List S_api_Header)) (name2 : Bs) (r : ((List Bs))) (H : m_message_Values l1 name2 = some r) : Fn Tryz.prog 49 [vlst (List.map C_api_Header l1), vstr name2] (resOf [vlst (List.map C_string r)]) := by
  refine ⟨by kernel_rfl, pure_of (us := [vlst (List.map C_string r)]) Tryz.func49 rfl rfl rfl rfl fun X hN => ?_⟩
  unfold m_message_Values at H
  refine awp_seq ?_
  refine awp_plain hN rfl ?_
  refine seq_run0 (stp_assign (.dat _) rfl) ?_
  refine awp_seq ?_
  refine awp_plain hN rfl ?_
  refine seq_run0 (stp_assign (.dat _) rfl) ?_
  refine awp_seq ?_
  refine awp_seq ?_
  refine awp_plain hN rfl ?_
  refine seq_run0 (stp_move (.dat _) rfl) ?_
  refine seq_run0 (t_len tyU26 rfl) ?_
  refine seq_run0 (stp_move (.dat _) rfl) ?_
  refine awp_block ?_
  refine awp_nilrow 5 1 9 1 rfl rfl rfl ?_
  obtain ⟨h6, H⟩ := gif H
  refine awp_forL (fun (k4 : Nat) (s : (List Bs)) => [(1, .dat (vstr name2)), (5, .row 1 s.length), (8, .dat (vlst (List.map C_api_Header l1))), (9, .dat (vint (l1.length : Int))), (10, .dat (vint (k4 : Int)))]) (fun (k4 : Nat) (s : (List Bs)) => [(1, .row 9 1 (List.map C_string s))]) [] H ⟨rfl, congrArg (Slot.row 1) (by simp), rfl, rfl, rfl, trivial⟩ ⟨rfl, trivial⟩ (fun _ _ => rfl) ?_ ?_
  · rintro l3 H
    replace H : message_Values_E1 l3 = some r := H
    unfold message_Values_E1 at H
    refine awp_seq ?_
    refine awp_plain hN rfl ?_
    refine seq_run0 (stp_lss rfl rfl) ?_
    refine awp_seq ?_
    refine awp_cond _ rfl (fun h => (lt_t h).elim) (fun h => ?_)
    refine awp_exit ?_
    refine awp_seq ?_
    refine awp_plain hN rfl ?_
    refine seq_run0 (stp_move (.row _ _) rfl) ?_
    refine seq_run0 (stp_assign (.row _ _) rfl) ?_
    refine awp_ret ?_
    cases H
    exact ⟨trivial, t_slotv rfl rfl, trivial⟩
  · rintro k4 x7 l3 q5 h8 h9 H hq5
    replace H : message_Values_L1 name2 k4 x7 l3 = some q5 := H
    unfold message_Values_L1 at H
    refine awp_seq ?_
    refine awp_plain hN rfl ?_
    refine seq_run0 (stp_lss rfl rfl) ?_
    refine awp_seq ?_
    refine awp_cond _ rfl (fun h => ?_) (fun h => (lt_f h8 h).elim)
    refine awp_skip ?_
    refine awp_joinE (ι := (List Bs)) (fun i => [(1, .dat (vstr name2)), (5, .row 1 i.length), (8, .dat (vlst (List.map C_api_Header l1))), (9, .dat (vint (l1.length : Int))), (10, .dat (vint (k4 : Int)))]) (fun i => [(1, .row 9 1 (List.map C_string i))]) (fun i => message_Values_J2 i = some q5) (fun i => rfl) ?_ ?_
    · skip
      refine awp_block ?_
      refine awp_seq ?_
      refine awp_plain hN rfl ?_
      refine seq_run0 (t_idx tyE26 (fun _ => rfl) rfl rfl h9) ?_
      refine seq_run0 (stp_loadEA tyS32 rfl (map_at h9) rfl) ?_
      refine seq_run2 (stp_alloc 2 tyZ32 rfl) rfl ?_
      refine seq_run2 (stp_storeW tyS32 rfl rfl rfl rfl) rfl ?_
      refine awp_seq ?_
      refine awp_plain hN rfl ?_
      refine seq_run1 (stp_loadA tyS32 rfl rfl rfl) rfl ?_
      refine seq_run0 (stp_move (.dat _) rfl) ?_
      obtain ⟨r10, h11, H⟩ := bnd H
      refine seq_run0 (stp_call (k_message_isNamed x7 name2 r10 h11) ⟨.inl rfl, .inl rfl, trivial⟩) ?_
      refine awp_cond _ rfl (fun h12 => ?_) (fun h12 => ?_)
      · replace H := ift h12 H
        refine awp_plain hN rfl ?_
        refine seq_run0 (stp_move (.row _ _) rfl) ?_
        refine seq_run0 (stp_fldP tyF32_1 rfl) ?_
        refine seq_run1 (stp_load1 tyS9 rfl rfl) rfl ?_
        refine seq_run0 (stp_dat (u' := vlst (List.map C_string [x7.Value])) (stp_lit [[_]] tyL46 ⟨rfl, .inl ⟨_, rfl, rfl, rfl⟩, rfl, trivial⟩ rfl rfl) rfl) ?_
        obtain ⟨h13, H⟩ := gif H
        refine seq_run2 (t_app tyL46 (fun _ => rfl) rfl rfl rfl ⟨by simp, by first | (simp; done) | simpa using h13⟩ rfl) rfl ?_
        refine seq_run0 (stp_assign (.row _ _) rfl) ?_
        exact ⟨(l3 ++ [x7.Value]), H, ⟨rfl, rfl, rfl, rfl, rfl, trivial⟩, ⟨rfl, trivial⟩⟩
      · replace H := iff_ h12 H
        refine awp_skip ?_
        exact ⟨l3, H, ⟨rfl, rfl, rfl, rfl, rfl, trivial⟩, ⟨rfl, trivial⟩⟩
    · rintro out14 H
      replace H : message_Values_J2 out14 = some q5 := H
      unfold message_Values_J2 at H
      refine awp_plain hN rfl ?_
      refine seq_run0 (stp_add rfl rfl (by omega)) ?_
      refine seq_run0 (stp_move (.dat _) rfl) ?_
      exact ⟨_, backl H, ⟨rfl, rfl, rfl, rfl, rfl, trivial⟩, ⟨rfl, trivial⟩⟩
theorem kr_strings_Split (s sep : Bs) (r : List Bs) (H : m_strings_Split s sep = some r) : FnG Tryz.prog 54 [.dat (vstr s), .dat (vstr sep)] [] (.row 900 r.length) [(900, .row 9 1 (List.map C_string r))] := by
  obtain ⟨h1, h2, rfl⟩ := split_some H
  have hlen := Lib.splitB_all ⟨sep.toArray⟩ (by simpa [ByteArray.size] using h2) 0 _ ⟨s.toArray⟩ rfl
  have hle := Lib.countB_le ⟨sep.toArray⟩ (by simpa [ByteArray.size] using h2) _ ⟨s.toArray⟩ (Nat.le_refl _)
  refine fnG_strs (args := [vstr s, vstr sep]) (splitL s sep) (by kernel_rfl) (fun M w vs hM hvs => ?_) ?_
  · have hv := Ts_vals (us := [.string ⟨s.toArray⟩, .string ⟨sep.toArray⟩]) hvs
    subst hv
    obtain ⟨m, hm⟩ := maxLen_cell hM
    refine (Tryz.strings_Split ⟨s.toArray⟩ ⟨sep.toArray⟩ m w (by simp [ByteArray.size]; omega) hm (by simpa [ByteArray.size] using h2)).mono ?_
    rintro e w' ⟨rfl, rfl⟩
    have e1 : (splitL s sep).length = Lib.countB ⟨s.toArray⟩ ⟨sep.toArray⟩ + 1 := by unfold splitL; rw [List.length_map, hlen]
    have e2 : ((splitL s sep).map fun s => Value.string ⟨s.toArray⟩) = (Lib.splitB ⟨sep.toArray⟩ 0 (Lib.countB ⟨s.toArray⟩ ⟨sep.toArray⟩) ⟨s.toArray⟩).map Value.string := by
      unfold splitL
      rw [List.map_map]
      exact List.map_congr_left fun b _ => by simp
    rw [e1, e2]
    exact ⟨rfl, rfl⟩
  · unfold splitL maxLen
    rw [List.length_map, hlen]
    have hsz : (ByteArray.mk s.toArray).size = s.length := by simp [ByteArray.size]
    rw [hsz] at hle
    omega
theorem k_strings_Split (s sep : Bs) (r : List Bs) (H : m_strings_Split s sep = some r) : Fn Tryz.prog 54 [vstr s, vstr sep] (resOf [vlst (List.map C_string r)]) := by
  have h := kr_strings_Split s sep r H
  rw [← List.length_map (f := C_string)] at h
  exact fn_of_fnG h
theorem k_message_Parts (values1 : (List Bs)) (r : ((List Bs))) (H : m_message_Parts values1 = some r) : Fn Tryz.prog 48 [vlst (List.map C_string values1)] (resOf [vlst (List.map C_string r)]) := by
  refine ⟨by kernel_rfl, pure_of (us := [vlst (List.map C_string r)]) Tryz.func48 rfl rfl rfl rfl fun X hN => ?_⟩
  unfold m_message_Parts at H
  refine awp_seq ?_
  refine awp_plain hN rfl ?_
  refine seq_run0 (stp_assign (.dat _) rfl) ?_
  refine awp_seq ?_
  refine awp_plain hN rfl ?_
  refine seq_run0 (stp_assign (.dat _) rfl) ?_
  refine awp_seq ?_
  refine awp_seq ?_
  refine awp_plain hN rfl ?_
  refine seq_run0 (stp_move (.dat _) rfl) ?_
  refine seq_run0 (t_len tyU46 rfl) ?_
  refine seq_run0 (stp_move (.dat _) rfl) ?_
  refine awp_block ?_
  refine awp_nilrow 3 1 9 1 rfl rfl rfl ?_
  obtain ⟨h5, H⟩ := gif H
  refine awp_forL (fun (k3 : Nat) (s : (List Bs)) => [(3, .row 1 s.length), (8, .dat (vlst (List.map C_string values1))), (9, .dat (vint (values1.length : Int))), (10, .dat (vint (k3 : Int)))]) (fun (k3 : Nat) (s : (List Bs)) => [(1, .row 9 1 (List.map C_string s))]) [] H ⟨congrArg (Slot.row 1) (by simp), rfl, rfl, rfl, trivial⟩ ⟨rfl, trivial⟩ (fun _ _ => rfl) ?_ ?_
  · rintro l2 H
    replace H : message_Parts_E1 l2 = some r := H
    unfold message_Parts_E1 at H
    refine awp_seq ?_
    refine awp_plain hN rfl ?_
    refine seq_run0 (stp_lss rfl rfl) ?_
    refine awp_seq ?_
    refine awp_cond _ rfl (fun h => (lt_t h).elim) (fun h => ?_)
    refine awp_exit ?_
    refine awp_seq ?_
    refine awp_plain hN rfl ?_
    refine seq_run0 (stp_move (.row _ _) rfl) ?_
    refine seq_run0 (stp_assign (.row _ _) rfl) ?_
    refine awp_ret ?_
    cases H
    exact ⟨trivial, t_slotv rfl rfl, trivial⟩
  · rintro k3 x6 l2 q4 h7 h8 H hq4
    replace H : message_Parts_L1 k3 x6 l2 = some q4 := H
    unfold message_Parts_L1 at H
    refine awp_seq ?_
    refine awp_plain hN rfl ?_
    refine seq_run0 (stp_lss rfl rfl) ?_
    refine awp_seq ?_
    refine awp_cond _ rfl (fun h => ?_) (fun h => (lt_f h7 h).elim)
    refine awp_skip ?_
    refine awp_seq ?_
    refine awp_block ?_
    refine awp_seq ?_
    refine awp_plain hN rfl ?_
    refine seq_run0 (t_idx tyE46 (fun _ => rfl) rfl rfl h8) ?_
    refine seq_run0 (stp_loadE1 tyS9 rfl (map_at h8) rfl) ?_
    refine seq_run0 (stp_assign (.dat _) rfl) ?_
    refine awp_seq ?_
    refine awp_plain hN rfl ?_
    refine seq_run0 (stp_move (.dat _) rfl) ?_
    obtain ⟨r9, h10, H⟩ := bnd H
    refine seq_run0 (stp_call (k_strings_Split x6 [44] r9 h10) ⟨.inl rfl, .inl rfl, trivial⟩) ?_
    refine seq_run0 (t_len tyU46 rfl) ?_
    refine seq_run0 (stp_move (.dat _) rfl) ?_
    refine awp_block ?_
    obtain ⟨h14, H⟩ := gif H
    refine awp_forL (fun (k12 : Nat) (s : (List Bs)) => [(3, .row 1 s.length), (8, .dat (vlst (List.map C_string values1))), (9, .dat (vint (values1.length : Int))), (10, .dat (vint (k3 : Int))), (15, .dat (vlst (List.map C_string r9))), (16, .dat (vint (r9.length : Int))), (17, .dat (vint (k12 : Int)))]) (fun (k12 : Nat) (s : (List Bs)) => [(1, .row 9 1 (List.map C_string s))]) l2 H ⟨rfl, rfl, rfl, rfl, rfl, rfl, rfl, trivial⟩ ⟨rfl, trivial⟩ (fun _ _ => rfl) ?_ ?_
    · rintro l11 H
      replace H : message_Parts_E2 l11 = some q4 := H
      unfold message_Parts_E2 at H
      refine awp_seq ?_
      refine awp_plain hN rfl ?_
      refine seq_run0 (stp_lss rfl rfl) ?_
      refine awp_seq ?_
      refine awp_cond _ rfl (fun h => (lt_t h).elim) (fun h => ?_)
      refine awp_exit ?_
      refine awp_plain hN rfl ?_
      refine seq_run0 (stp_add rfl rfl (by omega)) ?_
      refine seq_run0 (stp_move (.dat _) rfl) ?_
      exact ⟨_, backl H, ⟨rfl, rfl, rfl, rfl, trivial⟩, ⟨rfl, trivial⟩⟩
    · rintro k12 x15 l11 q13 h16 h17 H hq13
      replace H : message_Parts_L2 k12 x15 l11 = some q13 := H
      unfold message_Parts_L2 at H
      refine awp_seq ?_
      refine awp_plain hN rfl ?_
      refine seq_run0 (stp_lss rfl rfl) ?_
      refine awp_seq ?_
      refine awp_cond _ rfl (fun h => ?_) (fun h => (lt_f h16 h).elim)
      refine awp_skip ?_
      refine awp_joinE (ι := (List Bs)) (fun i => [(3, .row 1 i.length), (8, .dat (vlst (List.map C_string values1))), (9, .dat (vint (values1.length : Int))), (10, .dat (vint (k3 : Int))), (15, .dat (vlst (List.map C_string r9))), (16, .dat (vint (r9.length : Int))), (17, .dat (vint (k12 : Int)))]) (fun i => [(1, .row 9 1 (List.map C_string i))]) (fun i => message_Parts_J3 i = some q13) (fun i => rfl) ?_ ?_
      · skip
        refine awp_block ?_
        refine awp_seq ?_
        refine awp_plain hN rfl ?_
        refine seq_run0 (t_idx tyE46 (fun _ => rfl) rfl rfl h17) ?_
        refine seq_run0 (stp_loadE1 tyS9 rfl (map_at h17) rfl) ?_
        refine seq_run0 (stp_assign (.dat _) rfl) ?_
        refine awp_seq ?_
        refine awp_plain hN rfl ?_
        refine seq_run0 (stp_move (.dat _) rfl) ?_
        obtain ⟨r18, h19, H⟩ := bnd H
        refine seq_run0 (stp_call (k_strings_Trim x15 [32] r18 h19) ⟨.inl rfl, .inl rfl, trivial⟩) ?_
        refine seq_run0 (stp_assign (.dat _) rfl) ?_
        refine awp_seq ?_
        refine awp_plain hN rfl ?_
        refine seq_run0 (stp_move (.dat _) rfl) ?_
        refine seq_run0 (stp_sneq rfl rfl) ?_
        refine awp_cond _ rfl (fun h20 => ?_) (fun h20 => ?_)
        · replace H := ift h20 H
          refine awp_plain hN rfl ?_
          refine seq_run0 (stp_move (.row _ _) rfl) ?_
          refine seq_run0 (stp_move (.dat _) rfl) ?_
          refine seq_run0 (stp_dat (u' := vlst (List.map C_string [r18])) (stp_lit [[_]] tyL46 ⟨rfl, .inl ⟨_, rfl, rfl, rfl⟩, rfl, trivial⟩ rfl rfl) rfl) ?_
          obtain ⟨h21, H⟩ := gif H
          refine seq_run2 (t_app tyL46 (fun _ => rfl) rfl rfl rfl ⟨by simp, by first | (simp; done) | simpa using h21⟩ rfl) rfl ?_
          refine seq_run0 (stp_assign (.row _ _) rfl) ?_
          exact ⟨(l11 ++ [r18]), H, ⟨rfl, rfl, rfl, rfl, rfl, rfl, rfl, trivial⟩, ⟨rfl, trivial⟩⟩
        · replace H := iff_ h20 H
          refine awp_skip ?_
          exact ⟨l11, H, ⟨rfl, rfl, rfl, rfl, rfl, rfl, rfl, trivial⟩, ⟨rfl, trivial⟩⟩
      · rintro out22 H
        replace H : message_Parts_J3 out22 = some q13 := H
        unfold message_Parts_J3 at H
        refine awp_plain hN rfl ?_
        refine seq_run0 (stp_add rfl rfl (by omega)) ?_
        refine seq_run0 (stp_move (.dat _) rfl) ?_
        exact ⟨_, backl H, ⟨rfl, rfl, rfl, rfl, rfl, rfl, rfl, trivial⟩, ⟨rfl, trivial⟩⟩
theorem k_strings_Cut (s p : Bs) (r : Bs × Bs × Bool) (H : m_strings_Cut s p = some r) : Fn Tryz.prog 30 [vstr s, vstr p] (resOf [vstr r.1, vstr r.2.1, vbool r.2.2]) := by
  unfold m_strings_Cut at H
  obtain ⟨h1, h2⟩ := gif H
  cases h2
  refine fn_of_callsG (by kernel_rfl) fun M w vs hM h => ?_
  have hv := Ts_vals (us := [.string ⟨s.toArray⟩, .string ⟨p.toArray⟩]) h
  subst hv
  obtain ⟨m, hm⟩ := maxLen_cell hM
  refine (Tryz.strings_Cut ⟨s.toArray⟩ ⟨p.toArray⟩ m w (by simp [ByteArray.size]; omega) hm).mono ?_
  rintro e w' ⟨rfl, n, rfl⟩
  refine ⟨_, rfl, ⟨[_, _, _], rfl, rfl, fun j u hj => ?_⟩, ⟨rfl, rfl, rfl, Nat.le_refl _, fun _ _ _ => rfl⟩⟩
  rcases j with _ | _ | _ | j
  · cases hj; exact ⟨_, rfl, rfl⟩
  · cases hj; exact ⟨_, rfl, rfl⟩
  · cases hj; exact ⟨_, rfl, rfl⟩
  · simp at hj

theorem k_strings_TrimPrefix (s p : Bs) (r : Bs) (H : m_strings_TrimPrefix s p = some r) : Fn Tryz.prog 57 [vstr s, vstr p] (resOf [vstr r]) := by
  unfold m_strings_TrimPrefix at H
  cases H
  refine fn_of_callsG (by kernel_rfl) fun M w vs hM h => ?_
  have hv := Ts_vals (us := [.string ⟨s.toArray⟩, .string ⟨p.toArray⟩]) h
  subst hv
  refine (Tryz.strings_TrimPrefix ⟨s.toArray⟩ ⟨p.toArray⟩ w).mono ?_
  rintro e w' ⟨rfl, rfl⟩
  exact ⟨_, rfl, rfl, Kp.refl _ _⟩

theorem k_internal_strconv_lower (c1 : Int) (r : (Int)) (H : m_internal_strconv_lower c1 = some r) : Fn Tryz.prog 155 [vval (.int .u8 c1)] (resOf [vval (.int .u8 r)]) := by
  refine ⟨by kernel_rfl, pure_of (us := [vval (.int .u8 r)]) Tryz.func155 rfl rfl rfl rfl fun X hN => ?_⟩
  unfold m_internal_strconv_lower at H
  refine awp_seq ?_
  refine awp_plain hN rfl ?_
  refine seq_run0 (stp_assign (.dat _) rfl) ?_
  refine awp_seq ?_
  refine awp_plain hN rfl ?_
  refine seq_run0 (stp_move (.dat _) rfl) ?_
  refine seq_run0 (stp_dat (stp_or rfl rfl) rfl) ?_
  refine seq_run0 (stp_assign (.dat _) rfl) ?_
  refine awp_ret ?_
  cases H
  exact ⟨trivial, .inl rfl, trivial⟩
theorem k_internal_strconv_underscoreOK (v1 : Bs) (r : (Bool)) (H : m_internal_strconv_underscoreOK v1 = some r) : Fn Tryz.prog 156 [vstr v1] (resOf [vbool r]) := by
  refine ⟨by kernel_rfl, pure_of (us := [vbool r]) Tryz.func156 rfl rfl rfl rfl fun X hN => ?_⟩
  unfold m_internal_strconv_underscoreOK at H
  refine awp_seq ?_
  refine awp_plain hN rfl ?_
  refine seq_run0 (stp_assign (.dat _) rfl) ?_
  refine awp_seq ?_
  refine awp_plain hN rfl ?_
  refine seq_run0 (stp_assign (.dat _) rfl) ?_
  refine awp_seq ?_
  refine awp_plain hN rfl ?_
  refine seq_run0 (stp_assign (.dat _) rfl) ?_
  refine awp_joinE (ι := Bs) (fun i => [(0, .dat (vstr i)), (3, .dat (vval (.int .i32 94))), (4, .dat (vint 0))]) (fun i => []) (fun i => internal_strconv_underscoreOK_J1 i = some r) (fun i => rfl) ?_ ?_
  · skip
    refine awp_joinE (ι := Bool) (fun i => [(0, .dat (vstr v1)), (3, .dat (vval (.int .i32 94))), (4, .dat (vint 0)), (18, .dat (vbool i))]) (fun i => []) (fun i => internal_strconv_underscoreOK_J2 v1 i = some r) (fun i => rfl) ?_ ?_
    · skip
      refine awp_plain hN rfl ?_
      refine seq_run0 (stp_move (.dat _) rfl) ?_
      refine seq_run0 (stp_len_str tyU9 rfl) ?_
      refine seq_run0 (stp_geq rfl rfl) ?_
      refine seq_run0 (stp_move (.dat _) rfl) ?_
      refine seq_split (j := 3) rfl rfl (fun h2 => ?_) (fun h2 => ?_) rfl
      · have h3 := un1 h2
        replace H := ift h3 H
        refine seq_g0 rfl rfl h2 (stp_move (.dat _) rfl) ?_
        obtain ⟨x4, h5, H⟩ := bnd H
        refine seq_g0 rfl rfl h2 (t_byte tyU9 rfl rfl h5) ?_
        refine seq_g0 rfl rfl h2 (stp_eql rfl rfl) ?_
        refine seq_g0 rfl rfl h2 (stp_move (.dat _) rfl) ?_
        refine seq_split (j := 7) rfl rfl (fun h6 => ?_) (fun h6 => ?_) rfl
        · have h7 := un3 h6
          replace H := iff_ h7 H
          refine seq_g0 rfl rfl h6 (stp_move (.dat _) rfl) ?_
          refine seq_g0 rfl rfl h6 (t_byte tyU9 rfl rfl h5) ?_
          refine seq_g0 rfl rfl h6 (stp_eql rfl rfl) ?_
          refine seq_g0 rfl rfl h2 (stp_pick_f rfl (bFF h7) rfl) ?_
          refine seq_run0 (stp_pick_t rfl (bTT h3) rfl) ?_
          exact ⟨decide ((x4.toNat : Int) = 43), H, ⟨rfl, rfl, rfl, rfl, trivial⟩, trivial⟩
        · have h8 := un4 h6
          replace H := ift h8 H
          refine seq_skip rfl rfl h6 ?_
          refine seq_skip rfl rfl h6 ?_
          refine seq_skip rfl rfl h6 ?_
          refine seq_g0 rfl rfl h2 (stp_pick_t rfl (bTT h8) rfl) ?_
          refine seq_run0 (stp_pick_t rfl (bTT h3) rfl) ?_
          exact ⟨true, H, ⟨rfl, rfl, rfl, rfl, trivial⟩, trivial⟩
      · have h9 := un2 h2
        replace H := iff_ h9 H
        refine seq_skip rfl rfl h2 ?_
        refine seq_skip rfl rfl h2 ?_
        refine seq_skip rfl rfl h2 ?_
        refine seq_skip rfl rfl h2 ?_
        refine seq_skipU rfl rfl ?_
        refine seq_skipU rfl rfl ?_
        refine seq_skipU rfl rfl ?_
        refine seq_skip rfl rfl h2 ?_
        refine seq_run0 (stp_pick_f rfl (bFF h9) rfl) ?_
        exact ⟨false, H, ⟨rfl, rfl, rfl, rfl, trivial⟩, trivial⟩
    · rintro v10 H
      replace H : internal_strconv_underscoreOK_J2 v1 v10 = some r := H
      unfold internal_strconv_underscoreOK_J2 at H
      refine awp_cond _ rfl (fun h11 => ?_) (fun h11 => ?_)
      · replace H := ift h11 H
        refine awp_plain hN rfl ?_
        refine seq_run0 (stp_move (.dat _) rfl) ?_
        obtain ⟨l12, h13, H⟩ := bnd H
        refine seq_run0 (t_subS tyU9 rfl rfl rfl h13) ?_
        refine seq_run0 (stp_assign (.dat _) rfl) ?_
        exact ⟨l12, H, ⟨rfl, rfl, rfl, trivial⟩, trivial⟩
      · replace H := iff_ h11 H
        refine awp_skip ?_
        exact ⟨v1, H, ⟨rfl, rfl, rfl, trivial⟩, trivial⟩
  · rintro v14 H
    replace H : internal_strconv_underscoreOK_J1 v14 = some r := H
    unfold internal_strconv_underscoreOK_J1 at H
    refine awp_seq ?_
    refine awp_plain hN rfl ?_
    refine seq_run0 (stp_assign (.dat _) rfl) ?_
    refine awp_joinE (ι := Int × Int × Bool) (fun i => [(0, .dat (vstr v14)), (3, .dat (vval (.int .i32 i.1))), (4, .dat (vint i.2.1)), (5, .dat (vbool i.2.2))]) (fun i => []) (fun i => internal_strconv_underscoreOK_J3 v14 i.1 i.2.1 i.2.2 = some r) (fun i => rfl) ?_ ?_
    · skip
      refine awp_joinE (ι := Bool) (fun i => [(0, .dat (vstr v14)), (3, .dat (vval (.int .i32 94))), (4, .dat (vint 0)), (5, .dat (vbool false)), (46, .dat (vbool i))]) (fun i => []) (fun i => internal_strconv_underscoreOK_J4 v14 i = some r) (fun i => rfl) ?_ ?_
      · skip
        refine awp_plain hN rfl ?_
        refine seq_run0 (stp_move (.dat _) rfl) ?_
        refine seq_run0 (stp_len_str tyU9 rfl) ?_
        refine seq_run0 (stp_geq rfl rfl) ?_
        refine seq_run0 (stp_move (.dat _) rfl) ?_
        refine seq_split (j := 3) rfl rfl (fun h15 => ?_) (fun h15 => ?_) rfl
        · have h16 := un1 h15
          replace H := ift h16 H
          refine seq_g0 rfl rfl h15 (stp_move (.dat _) rfl) ?_
          obtain ⟨x17, h18, H⟩ := bnd H
          refine seq_g0 rfl rfl h15 (t_byte tyU9 rfl rfl h18) ?_
          refine seq_g0 rfl rfl h15 (stp_eql rfl rfl) ?_
          refine seq_run0 (stp_pick_t rfl (bTT h16) rfl) ?_
          refine seq_run0 (stp_move (.dat _) rfl) ?_
          refine seq_split (j := 8) rfl rfl (fun h19 => ?_) (fun h19 => ?_) rfl
          · have h20 := un1 h19
            replace H := ift h20 H
            refine seq_g0 rfl rfl h19 (stp_move (.dat _) rfl) ?_
            obtain ⟨x21, h22, H⟩ := bnd H
            refine seq_g0 rfl rfl h19 (t_byte tyU9 rfl rfl h22) ?_
            obtain ⟨r23, h24, H⟩ := bnd H
            refine seq_g0 rfl rfl h19 (stp_call (k_internal_strconv_lower (x21.toNat : Int) r23 h24) ⟨.inl rfl, trivial⟩) ?_
            refine seq_g0 rfl rfl h19 (stp_eql rfl rfl) ?_
            refine seq_g0 rfl rfl h19 (stp_move (.dat _) rfl) ?_
            refine seq_split (j := 13) rfl rfl (fun h25 => ?_) (fun h25 => ?_) rfl
            · have h26 := un3 h25
              replace H := iff_ h26 H
              refine seq_g0 rfl rfl h25 (stp_move (.dat _) rfl) ?_
              refine seq_g0 rfl rfl h25 (t_byte tyU9 rfl rfl h22) ?_
              obtain ⟨r27, h28, H⟩ := bnd H
              refine seq_g0 rfl rfl h25 (stp_call (k_internal_strconv_lower (x21.toNat : Int) r27 h28) ⟨.inl rfl, trivial⟩) ?_
              refine seq_g0 rfl rfl h25 (stp_eql rfl rfl) ?_
              refine seq_g0 rfl rfl h19 (stp_pick_f rfl (bFF h26) rfl) ?_
              refine seq_g0 rfl rfl h19 (stp_move (.dat _) rfl) ?_
              refine seq_split (j := 19) rfl rfl (fun h29 => ?_) (fun h29 => ?_) rfl
              · have h30 := un3 h29
                replace H := iff_ h30 H
                refine seq_g0 rfl rfl h29 (stp_move (.dat _) rfl) ?_
                refine seq_g0 rfl rfl h29 (t_byte tyU9 rfl rfl h22) ?_
                obtain ⟨r31, h32, H⟩ := bnd H
                refine seq_g0 rfl rfl h29 (stp_call (k_internal_strconv_lower (x21.toNat : Int) r31 h32) ⟨.inl rfl, trivial⟩) ?_
                refine seq_g0 rfl rfl h29 (stp_eql rfl rfl) ?_
                refine seq_g0 rfl rfl h19 (stp_pick_f rfl (bFF h30) rfl) ?_
                refine seq_run0 (stp_pick_t rfl (bTT h20) rfl) ?_
                exact ⟨decide (r31 = 120), H, ⟨rfl, rfl, rfl, rfl, rfl, trivial⟩, trivial⟩
              · have h33 := un4 h29
                replace H := ift h33 H
                refine seq_skip rfl rfl h29 ?_
                refine seq_skip rfl rfl h29 ?_
                refine seq_skip rfl rfl h29 ?_
                refine seq_skip rfl rfl h29 ?_
                refine seq_g0 rfl rfl h19 (stp_pick_t rfl (bTT h33) rfl) ?_
                refine seq_run0 (stp_pick_t rfl (bTT h20) rfl) ?_
                exact ⟨true, H, ⟨rfl, rfl, rfl, rfl, rfl, trivial⟩, trivial⟩
            · have h34 := un4 h25
              replace H := ift h34 H
              refine seq_skip rfl rfl h25 ?_
              refine seq_skip rfl rfl h25 ?_
              refine seq_skip rfl rfl h25 ?_
              refine seq_skip rfl rfl h25 ?_
              refine seq_g0 rfl rfl h19 (stp_pick_t rfl (bTT h34) rfl) ?_
              refine seq_g0 rfl rfl h19 (stp_move (.dat _) rfl) ?_
              refine seq_skip rfl rfl rfl ?_
              refine seq_skip rfl rfl rfl ?_
              refine seq_skip rfl rfl rfl ?_
              refine seq_skip rfl rfl rfl ?_
              refine seq_g0 rfl rfl h19 (stp_pick_t rfl rfl rfl) ?_
              refine seq_run0 (stp_pick_t rfl (bTT h20) rfl) ?_
              exact ⟨true, H, ⟨rfl, rfl, rfl, rfl, rfl, trivial⟩, trivial⟩
          · have h35 := un2 h19
            replace H := iff_ h35 H
            refine seq_skip rfl rfl h19 ?_
            refine seq_skip rfl rfl h19 ?_
            refine seq_skip rfl rfl h19 ?_
            refine seq_skip rfl rfl h19 ?_
            refine seq_skip rfl rfl h19 ?_
            refine seq_skipU rfl rfl ?_
            refine seq_skipU rfl rfl ?_
            refine seq_skipU rfl rfl ?_
            refine seq_skipU rfl rfl ?_
            refine seq_skip rfl rfl h19 ?_
            refine seq_skip rfl rfl h19 ?_
            refine seq_skipU rfl rfl ?_
            refine seq_skipU rfl rfl ?_
            refine seq_skipU rfl rfl ?_
            refine seq_skipU rfl rfl ?_
            refine seq_skip rfl rfl h19 ?_
            refine seq_run0 (stp_pick_f rfl (bFF h35) rfl) ?_
            exact ⟨false, H, ⟨rfl, rfl, rfl, rfl, rfl, trivial⟩, trivial⟩
        · have h36 := un2 h15
          replace H := iff_ h36 H
          refine seq_skip rfl rfl h15 ?_
          refine seq_skip rfl rfl h15 ?_
          refine seq_skip rfl rfl h15 ?_
          refine seq_run0 (stp_pick_f rfl (bFF h36) rfl) ?_
          refine seq_run0 (stp_move (.dat _) rfl) ?_
          refine seq_skip rfl rfl rfl ?_
          refine seq_skip rfl rfl rfl ?_
          refine seq_skip rfl rfl rfl ?_
          refine seq_skip rfl rfl rfl ?_
          refine seq_skip rfl rfl rfl ?_
          refine seq_skipU rfl rfl ?_
          refine seq_skipU rfl rfl ?_
          refine seq_skipU rfl rfl ?_
          refine seq_skipU rfl rfl ?_
          refine seq_skip rfl rfl rfl ?_
          refine seq_skip rfl rfl rfl ?_
          refine seq_skipU rfl rfl ?_
          refine seq_skipU rfl rfl ?_
          refine seq_skipU rfl rfl ?_
          refine seq_skipU rfl rfl ?_
          refine seq_skip rfl rfl rfl ?_
          refine seq_run0 (stp_pick_f rfl rfl rfl) ?_
          exact ⟨false, H, ⟨rfl, rfl, rfl, rfl, rfl, trivial⟩, trivial⟩
      · rintro v37 H
        replace H : internal_strconv_underscoreOK_J4 v14 v37 = some r := H
        unfold internal_strconv_underscoreOK_J4 at H
        refine awp_cond _ rfl (fun h38 => ?_) (fun h38 => ?_)
        · replace H := ift h38 H
          refine awp_seq ?_
          refine awp_plain hN rfl ?_
          refine seq_run0 (stp_assign (.dat _) rfl) ?_
          refine awp_seq ?_
          refine awp_plain hN rfl ?_
          refine seq_run0 (stp_assign (.dat _) rfl) ?_
          refine awp_plain hN rfl ?_
          refine seq_run0 (stp_move (.dat _) rfl) ?_
          obtain ⟨x39, h40, H⟩ := bnd H
          refine seq_run0 (t_byte tyU9 rfl rfl h40) ?_
          obtain ⟨r41, h42, H⟩ := bnd H
          refine seq_run0 (stp_call (k_internal_strconv_lower (x39.toNat : Int) r41 h42) ⟨.inl rfl, trivial⟩) ?_
          refine seq_run0 (stp_eql rfl rfl) ?_
          refine seq_run0 (stp_assign (.dat _) rfl) ?_
          exact ⟨(48, 2, decide (r41 = 120)), H, ⟨rfl, rfl, rfl, rfl, trivial⟩, trivial⟩
        · replace H := iff_ h38 H
          refine awp_skip ?_
          exact ⟨(94, 0, false), H, ⟨rfl, rfl, rfl, rfl, trivial⟩, trivial⟩
    · rintro ⟨v43, v44, v45⟩ H
      replace H : internal_strconv_underscoreOK_J3 v14 v43 v44 v45 = some r := H
      unfold internal_strconv_underscoreOK_J3 at H
      refine awp_joinE (ι := Int) (fun i => [(3, .dat (vval (.int .i32 i)))]) (fun i => []) (fun i => internal_strconv_underscoreOK_J5 i = some r) (fun i => rfl) ?_ ?_
      · skip
        refine awp_block ?_
        refine awp_iter (fun (s : Int × Int) => [(0, .dat (vstr v14)), (3, .dat (vval (.int .i32 s.1))), (4, .dat (vint s.2)), (5, .dat (vbool v45))]) (fun (s : Int × Int) => []) (v43, v44) H ⟨rfl, rfl, rfl, rfl, trivial⟩ trivial (fun _ => rfl) ?_
        rintro ⟨v46, v47⟩ q48 H hq48
        replace H : internal_strconv_underscoreOK_L6 v14 v45 v46 v47 = some q48 := H
        unfold internal_strconv_underscoreOK_L6 at H
        refine awp_seq ?_
        refine awp_seq ?_
        refine awp_plain hN rfl ?_
        refine seq_run0 (stp_move (.dat _) rfl) ?_
        refine seq_run0 (stp_move (.dat _) rfl) ?_
        refine seq_run0 (stp_len_str tyU9 rfl) ?_
        refine seq_run0 (stp_lss rfl rfl) ?_
        refine awp_cond _ rfl (fun h49 => ?_) (fun h49 => ?_)
        · replace H := ift h49 H
          refine awp_skip ?_
          refine awp_joinE (ι := Int) (fun i => [(0, .dat (vstr v14)), (3, .dat (vval (.int .i32 i))), (4, .dat (vint v47)), (5, .dat (vbool v45))]) (fun i => []) (fun i => internal_strconv_underscoreOK_J7 v47 i = some q48) (fun i => rfl) ?_ ?_
          · skip
            refine awp_block ?_
            refine awp_seq ?_
            refine awp_joinE (ι := Bool) (fun i => [(0, .dat (vstr v14)), (3, .dat (vval (.int .i32 v46))), (4, .dat (vint v47)), (5, .dat (vbool v45)), (83, .dat (vbool i))]) (fun i => []) (fun i => internal_strconv_underscoreOK_J8 v14 v46 v47 i = some q48) (fun i => rfl) ?_ ?_
            · skip
              refine awp_plain hN rfl ?_
              refine seq_run0 (stp_move (.dat _) rfl) ?_
              refine seq_run0 (stp_move (.dat _) rfl) ?_
              obtain ⟨x50, h51, H⟩ := bnd H
              refine seq_run0 (t_byteI tyU9 rfl rfl h51) ?_
              refine seq_run0 (stp_leq rfl rfl) ?_
              refine seq_run0 (stp_move (.dat _) rfl) ?_
              refine seq_split (j := 4) rfl rfl (fun h52 => ?_) (fun h52 => ?_) rfl
              · have h53 := un1 h52
                replace H := ift h53 H
                refine seq_g0 rfl rfl h52 (stp_move (.dat _) rfl) ?_
                refine seq_g0 rfl rfl h52 (stp_move (.dat _) rfl) ?_
                refine seq_g0 rfl rfl h52 (t_byteI tyU9 rfl rfl h51) ?_
                refine seq_g0 rfl rfl h52 (stp_leq rfl rfl) ?_
                refine seq_run0 (stp_pick_t rfl (bTT h53) rfl) ?_
                refine seq_run0 (stp_move (.dat _) rfl) ?_
                refine seq_split (j := 10) rfl rfl (fun h54 => ?_) (fun h54 => ?_) rfl
                · have h55 := un3 h54
                  replace H := iff_ h55 H
                  refine seq_g0 rfl rfl h54 (stp_move (.dat _) rfl) ?_
                  refine seq_g0 rfl rfl h54 (stp_move (.dat _) rfl) ?_
                  refine seq_split (j := 12) rfl rfl (fun h56 => ?_) (fun h56 => ?_) rfl
                  · have h57 := un1 h56
                    replace H := ift h57 H
                    refine seq_g0 rfl rfl h56 (stp_move (.dat _) rfl) ?_
                    refine seq_g0 rfl rfl h56 (stp_move (.dat _) rfl) ?_
                    refine seq_g0 rfl rfl h56 (t_byteI tyU9 rfl rfl h51) ?_
                    obtain ⟨r58, h59, H⟩ := bnd H
                    refine seq_g0 rfl rfl h56 (stp_call (k_internal_strconv_lower (x50.toNat : Int) r58 h59) ⟨.inl rfl, trivial⟩) ?_
                    refine seq_g0 rfl rfl h56 (stp_leq rfl rfl) ?_
                    refine seq_g0 rfl rfl h54 (stp_pick_t rfl (bTT h57) rfl) ?_
                    refine seq_g0 rfl rfl h54 (stp_move (.dat _) rfl) ?_
                    refine seq_split (j := 19) rfl rfl (fun h60 => ?_) (fun h60 => ?_) rfl
                    · have h61 := un1 h60
                      replace H := ift h61 H
                      refine seq_g0 rfl rfl h60 (stp_move (.dat _) rfl) ?_
                      refine seq_g0 rfl rfl h60 (stp_move (.dat _) rfl) ?_
                      refine seq_g0 rfl rfl h60 (t_byteI tyU9 rfl rfl h51) ?_
                      obtain ⟨r62, h63, H⟩ := bnd H
                      refine seq_g0 rfl rfl h60 (stp_call (k_internal_strconv_lower (x50.toNat : Int) r62 h63) ⟨.inl rfl, trivial⟩) ?_
                      refine seq_g0 rfl rfl h60 (stp_leq rfl rfl) ?_
                      refine seq_g0 rfl rfl h54 (stp_pick_t rfl (bTT h61) rfl) ?_
                      refine seq_run0 (stp_pick_f rfl (bFF h55) rfl) ?_
                      exact ⟨decide (r62 ≤ 102), H, ⟨rfl, rfl, rfl, rfl, rfl, trivial⟩, trivial⟩
                    · have h64 := un2 h60
                      replace H := iff_ h64 H
                      refine seq_skip rfl rfl h60 ?_
                      refine seq_skip rfl rfl h60 ?_
                      refine seq_skip rfl rfl h60 ?_
                      refine seq_skip rfl rfl h60 ?_
                      refine seq_skip rfl rfl h60 ?_
                      refine seq_g0 rfl rfl h54 (stp_pick_f rfl (bFF h64) rfl) ?_
                      refine seq_run0 (stp_pick_f rfl (bFF h55) rfl) ?_
                      exact ⟨false, H, ⟨rfl, rfl, rfl, rfl, rfl, trivial⟩, trivial⟩
                  · have h65 := un2 h56
                    replace H := iff_ h65 H
                    refine seq_skip rfl rfl h56 ?_
                    refine seq_skip rfl rfl h56 ?_
                    refine seq_skip rfl rfl h56 ?_
                    refine seq_skip rfl rfl h56 ?_
                    refine seq_skip rfl rfl h56 ?_
                    refine seq_g0 rfl rfl h54 (stp_pick_f rfl (bFF h65) rfl) ?_
                    refine seq_g0 rfl rfl h54 (stp_move (.dat _) rfl) ?_
                    refine seq_skip rfl rfl rfl ?_
                    refine seq_skip rfl rfl rfl ?_
                    refine seq_skip rfl rfl rfl ?_
                    refine seq_skip rfl rfl rfl ?_
                    refine seq_skip rfl rfl rfl ?_
                    refine seq_g0 rfl rfl h54 (stp_pick_f rfl rfl rfl) ?_
                    refine seq_run0 (stp_pick_f rfl (bFF h55) rfl) ?_
                    exact ⟨false, H, ⟨rfl, rfl, rfl, rfl, rfl, trivial⟩, trivial⟩
                · have h66 := un4 h54
                  replace H := ift h66 H
                  refine seq_skip rfl rfl h54 ?_
                  refine seq_skip rfl rfl h54 ?_
                  refine seq_skipU rfl rfl ?_
                  refine seq_skipU rfl rfl ?_
                  refine seq_skipU rfl rfl ?_
                  refine seq_skipU rfl rfl ?_
                  refine seq_skipU rfl rfl ?_
                  refine seq_skip rfl rfl h54 ?_
                  refine seq_skip rfl rfl h54 ?_
                  refine seq_skipU rfl rfl ?_
                  refine seq_skipU rfl rfl ?_
                  refine seq_skipU rfl rfl ?_
                  refine seq_skipU rfl rfl ?_
                  refine seq_skipU rfl rfl ?_
                  refine seq_skip rfl rfl h54 ?_
                  refine seq_run0 (stp_pick_t rfl (bTT h66) rfl) ?_
                  exact ⟨true, H, ⟨rfl, rfl, rfl, rfl, rfl, trivial⟩, trivial⟩
              · have h67 := un2 h52
                replace H := iff_ h67 H
                refine seq_skip rfl rfl h52 ?_
                refine seq_skip rfl rfl h52 ?_
                refine seq_skip rfl rfl h52 ?_
                refine seq_skip rfl rfl h52 ?_
                refine seq_run0 (stp_pick_f rfl (bFF h67) rfl) ?_
                refine seq_run0 (stp_move (.dat _) rfl) ?_
                refine seq_g0 rfl rfl rfl (stp_move (.dat _) rfl) ?_
                refine seq_g0 rfl rfl rfl (stp_move (.dat _) rfl) ?_
                refine seq_split (j := 12) rfl rfl (fun h68 => ?_) (fun h68 => ?_) rfl
                · have h69 := un1 h68
                  replace H := ift h69 H
                  refine seq_g0 rfl rfl h68 (stp_move (.dat _) rfl) ?_
                  refine seq_g0 rfl rfl h68 (stp_move (.dat _) rfl) ?_
                  refine seq_g0 rfl rfl h68 (t_byteI tyU9 rfl rfl h51) ?_
                  obtain ⟨r70, h71, H⟩ := bnd H
                  refine seq_g0 rfl rfl h68 (stp_call (k_internal_strconv_lower (x50.toNat : Int) r70 h71) ⟨.inl rfl, trivial⟩) ?_
                  refine seq_g0 rfl rfl h68 (stp_leq rfl rfl) ?_
                  refine seq_g0 rfl rfl rfl (stp_pick_t rfl (bTT h69) rfl) ?_
                  refine seq_g0 rfl rfl rfl (stp_move (.dat _) rfl) ?_
                  refine seq_split (j := 19) rfl rfl (fun h72 => ?_) (fun h72 => ?_) rfl
                  · have h73 := un1 h72
                    replace H := ift h73 H
                    refine seq_g0 rfl rfl h72 (stp_move (.dat _) rfl) ?_
                    refine seq_g0 rfl rfl h72 (stp_move (.dat _) rfl) ?_
                    refine seq_g0 rfl rfl h72 (t_byteI tyU9 rfl rfl h51) ?_
                    obtain ⟨r74, h75, H⟩ := bnd H
                    refine seq_g0 rfl rfl h72 (stp_call (k_internal_strconv_lower (x50.toNat : Int) r74 h75) ⟨.inl rfl, trivial⟩) ?_
                    refine seq_g0 rfl rfl h72 (stp_leq rfl rfl) ?_
                    refine seq_g0 rfl rfl rfl (stp_pick_t rfl (bTT h73) rfl) ?_
                    refine seq_run0 (stp_pick_f rfl rfl rfl) ?_
                    exact ⟨decide (r74 ≤ 102), H, ⟨rfl, rfl, rfl, rfl, rfl, trivial⟩, trivial⟩
                  · have h76 := un2 h72
                    replace H := iff_ h76 H
                    refine seq_skip rfl rfl h72 ?_
                    refine seq_skip rfl rfl h72 ?_
                    refine seq_skip rfl rfl h72 ?_
                    refine seq_skip rfl rfl h72 ?_
                    refine seq_skip rfl rfl h72 ?_
                    refine seq_g0 rfl rfl rfl (stp_pick_f rfl (bFF h76) rfl) ?_
                    refine seq_run0 (stp_pick_f rfl rfl rfl) ?_
                    exact ⟨false, H, ⟨rfl, rfl, rfl, rfl, rfl, trivial⟩, trivial⟩
                · have h77 := un2 h68
                  replace H := iff_ h77 H
                  refine seq_skip rfl rfl h68 ?_
                  refine seq_skip rfl rfl h68 ?_
                  refine seq_skip rfl rfl h68 ?_
                  refine seq_skip rfl rfl h68 ?_
                  refine seq_skip rfl rfl h68 ?_
                  refine seq_g0 rfl rfl rfl (stp_pick_f rfl (bFF h77) rfl) ?_
                  refine seq_g0 rfl rfl rfl (stp_move (.dat _) rfl) ?_
                  refine seq_skip rfl rfl rfl ?_
                  refine seq_skip rfl rfl rfl ?_
                  refine seq_skip rfl rfl rfl ?_
                  refine seq_skip rfl rfl rfl ?_
                  refine seq_skip rfl rfl rfl ?_
                  refine seq_g0 rfl rfl rfl (stp_pick_f rfl rfl rfl) ?_
                  refine seq_run0 (stp_pick_f rfl rfl rfl) ?_
                  exact ⟨false, H, ⟨rfl, rfl, rfl, rfl, rfl, trivial⟩, trivial⟩
            · rintro v78 H
              replace H : internal_strconv_underscoreOK_J8 v14 v46 v47 v78 = some q48 := H
              unfold internal_strconv_underscoreOK_J8 at H
              refine awp_cond _ rfl (fun h79 => ?_) (fun h79 => ?_)
              · replace H := ift h79 H
                refine awp_seq ?_
                refine awp_plain hN rfl ?_
                refine seq_run0 (stp_assign (.dat _) rfl) ?_
                refine awp_exit ?_
                exact ⟨48, H, ⟨rfl, rfl, rfl, rfl, trivial⟩, trivial⟩
              · replace H := iff_ h79 H
                refine awp_skip ?_
                refine awp_seq ?_
                refine awp_seq ?_
                refine awp_plain hN rfl ?_
                refine seq_run0 (stp_move (.dat _) rfl) ?_
                refine seq_run0 (stp_move (.dat _) rfl) ?_
                obtain ⟨x80, h81, H⟩ := bnd H
                refine seq_run0 (t_byteI tyU9 rfl rfl h81) ?_
                refine seq_run0 (stp_eql rfl rfl) ?_
                refine awp_cond _ rfl (fun h82 => ?_) (fun h82 => ?_)
                · replace H := ift h82 H
                  refine awp_seq ?_
                  refine awp_seq ?_
                  refine awp_plain hN rfl ?_
                  refine seq_run0 (stp_move (.dat _) rfl) ?_
                  refine seq_run0 (stp_neq rfl rfl) ?_
                  refine awp_cond _ rfl (fun h83 => ?_) (fun h83 => ?_)
                  · replace H := ift h83 H
                    refine awp_seq ?_
                    refine awp_plain hN rfl ?_
                    refine seq_run0 (stp_assign (.dat _) rfl) ?_
                    refine awp_ret ?_
                    replace H := retl H hq48
                    cases H
                    exact ⟨trivial, .inl rfl, trivial⟩
                  · replace H := iff_ h83 H
                    refine awp_skip ?_
                    refine awp_seq ?_
                    refine awp_plain hN rfl ?_
                    refine seq_run0 (stp_assign (.dat _) rfl) ?_
                    refine awp_exit ?_
                    exact ⟨95, H, ⟨rfl, rfl, rfl, rfl, trivial⟩, trivial⟩
                · replace H := iff_ h82 H
                  refine awp_skip ?_
                  refine awp_seq ?_
                  refine awp_seq ?_
                  refine awp_plain hN rfl ?_
                  refine seq_run0 (stp_move (.dat _) rfl) ?_
                  refine seq_run0 (stp_eql rfl rfl) ?_
                  refine awp_cond _ rfl (fun h84 => ?_) (fun h84 => ?_)
                  · replace H := ift h84 H
                    refine awp_seq ?_
                    refine awp_plain hN rfl ?_
                    refine seq_run0 (stp_assign (.dat _) rfl) ?_
                    refine awp_ret ?_
                    replace H := retl H hq48
                    cases H
                    exact ⟨trivial, .inl rfl, trivial⟩
                  · replace H := iff_ h84 H
                    refine awp_skip ?_
                    refine awp_plain hN rfl ?_
                    refine seq_run0 (stp_assign (.dat _) rfl) ?_
                    exact ⟨33, H, ⟨rfl, rfl, rfl, rfl, trivial⟩, trivial⟩
          · rintro v85 H
            replace H : internal_strconv_underscoreOK_J7 v47 v85 = some q48 := H
            unfold internal_strconv_underscoreOK_J7 at H
            refine awp_plain hN rfl ?_
            refine seq_run0 (stp_move (.dat _) rfl) ?_
            refine seq_run0 (stp_wrap _ rfl rfl (.inl ⟨rfl, rfl⟩)) ?_
            refine seq_run0 (stp_assign (.dat _) rfl) ?_
            exact ⟨_, backl H, ⟨rfl, rfl, rfl, rfl, trivial⟩, trivial⟩
        · replace H := iff_ h49 H
          refine awp_exit ?_
          replace H := outl H hq48
          exact ⟨v46, H, ⟨rfl, trivial⟩, trivial⟩
      · rintro v86 H
        replace H : internal_strconv_underscoreOK_J5 v86 = some r := H
        unfold internal_strconv_underscoreOK_J5 at H
        refine awp_seq ?_
        refine awp_plain hN rfl ?_
        refine seq_run0 (stp_move (.dat _) rfl) ?_
        refine seq_run0 (stp_neq rfl rfl) ?_
        refine seq_run0 (stp_assign (.dat _) rfl) ?_
        refine awp_ret ?_
        cases H
        exact ⟨trivial, .inl rfl, trivial⟩
end Go.Proofs.YthgeeoecgneclaaGreatDoor
