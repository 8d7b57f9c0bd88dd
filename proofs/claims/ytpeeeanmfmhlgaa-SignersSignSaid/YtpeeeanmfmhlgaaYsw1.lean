/- Walks along the models. Printed by a program. -/
import Derived.Test.YtpeeeanmfmhlgaaYsc
namespace Go.Proofs.Ytpeeeanmfmhlgaa
open Go.RowKit
set_option linter.unusedVariables false
set_option maxRecDepth 20000
theorem k_gatemake_Below (x1 : Int) (n2 : Int) (r : (Int)) (H : m_gatemake_Below x1 n2 = some r) : Fn Try.prog 47 [vint x1, vint n2] (resOf [vint r]) := by
  refine ⟨by kernel_rfl, pure_of (us := [vint r]) Try.func47 rfl rfl rfl rfl fun X hN => ?_⟩
  unfold m_gatemake_Below at H
  refine awp_seq ?_
  refine awp_plain hN rfl ?_
  refine seq_run0 (stp_assign (.dat _) rfl) ?_
  refine awp_seq ?_
  refine awp_seq ?_
  refine awp_plain hN rfl ?_
  refine seq_run0 (stp_move (.dat _) rfl) ?_
  refine seq_run0 (stp_lss rfl rfl) ?_
  refine awp_cond _ rfl (fun h3 => ?_) (fun h3 => ?_)
  · replace H := ift h3 H
    refine awp_seq ?_
    refine awp_plain hN rfl ?_
    refine seq_run0 (stp_assign (.dat _) rfl) ?_
    refine awp_ret ?_
    cases H
    exact ⟨trivial, .inl rfl, trivial⟩
  · replace H := iff_ h3 H
    refine awp_skip ?_
    refine awp_seq ?_
    refine awp_plain hN rfl ?_
    refine seq_run0 (stp_move (.dat _) rfl) ?_
    refine seq_run0 (stp_move (.dat _) rfl) ?_
    obtain ⟨h4, H⟩ := gif H
    refine seq_run0 (stp_remT rfl rfl h4) ?_
    refine seq_run0 (stp_assign (.dat _) rfl) ?_
    refine awp_joinE (ι := Int) (fun i => [(0, .dat (vint i))]) (fun i => []) (fun i => gatemake_Below_J1 i = some r) (fun i => rfl) ?_ ?_
    · skip
      refine awp_seq ?_
      refine awp_plain hN rfl ?_
      refine seq_run0 (stp_move (.dat _) rfl) ?_
      refine seq_run0 (stp_lss rfl rfl) ?_
      refine awp_cond _ rfl (fun h5 => ?_) (fun h5 => ?_)
      · replace H := ift h5 H
        refine awp_plain hN rfl ?_
        refine seq_run0 (stp_move (.dat _) rfl) ?_
        refine seq_run0 (stp_move (.dat _) rfl) ?_
        refine seq_run0 (stp_wrap _ rfl rfl (.inl ⟨rfl, rfl⟩)) ?_
        refine seq_run0 (stp_assign (.dat _) rfl) ?_
        exact ⟨wr ((Int.tmod x1 n2) + n2), H, ⟨rfl, trivial⟩, trivial⟩
      · replace H := iff_ h5 H
        refine awp_skip ?_
        exact ⟨(Int.tmod x1 n2), H, ⟨rfl, trivial⟩, trivial⟩
    · rintro x6 H
      replace H : gatemake_Below_J1 x6 = some r := H
      unfold gatemake_Below_J1 at H
      refine awp_seq ?_
      refine awp_plain hN rfl ?_
      refine seq_run0 (stp_move (.dat _) rfl) ?_
      refine seq_run0 (stp_assign (.dat _) rfl) ?_
      refine awp_ret ?_
      cases H
      exact ⟨trivial, .inl rfl, trivial⟩
theorem k_gatemake_Stream_Next (s1 : S_gatemake_Stream) (n2 : Int) (r : (Int × S_gatemake_Stream)) (H : m_gatemake_Stream_Next s1 n2 = some r) : Imp Try.prog 27 25 (C_gatemake_Stream s1) [vint n2] (resOf [vint r.1]) (C_gatemake_Stream r.2) := by
  refine imp_of (us := [vint r.1]) (cs' := (C_gatemake_Stream r.2)) (by kernel_rfl) Try.func27 rfl rfl rfl rfl fun X bl hN => ?_
  unfold m_gatemake_Stream_Next at H
  refine awp_seq ?_
  refine awp_plain hN rfl ?_
  refine seq_run0 (stp_assign (.dat _) rfl) ?_
  refine awp_seq ?_
  refine awp_plain hN rfl ?_
  refine seq_run0 (stp_move (.ptr _ _) rfl) ?_
  refine seq_run0 (stp_nilP rfl) ?_
  refine seq_run0 (stp_fldP tyF25_1 rfl) ?_
  refine seq_run1 (stp_load1 tyS3 rfl rfl) rfl ?_
  refine seq_run0 (stp_wrap _ rfl rfl (.inl ⟨rfl, rfl⟩)) ?_
  refine seq_run0 (stp_nilP rfl) ?_
  refine seq_run0 (stp_fldP tyF25_1 rfl) ?_
  refine seq_run2 (stp_store1 tyS3 rfl rfl rfl rfl) rfl ?_
  refine awp_seq ?_
  refine awp_seq ?_
  refine awp_plain hN rfl ?_
  refine seq_run0 (stp_move (.ptr _ _) rfl) ?_
  refine seq_run0 (stp_nilP rfl) ?_
  refine seq_run0 (stp_fldP tyF25_0 rfl) ?_
  refine seq_run1 (stp_load1 tyS22 rfl rfl) rfl ?_
  refine seq_run0 (t_len tyU22 rfl) ?_
  refine seq_run0 (stp_eql rfl rfl) ?_
  refine awp_cond _ rfl (fun h3 => ?_) (fun h3 => ?_)
  · replace H := ift h3 H
    refine awp_seq ?_
    refine awp_plain hN rfl ?_
    refine seq_run0 (stp_move (.ptr _ _) rfl) ?_
    refine seq_run0 (stp_nilP rfl) ?_
    refine seq_run0 (stp_fldP tyF25_1 rfl) ?_
    refine seq_run1 (stp_load1 tyS3 rfl rfl) rfl ?_
    refine seq_run0 (stp_wrap _ rfl rfl (.inr (.inr ⟨rfl, rfl⟩))) ?_
    refine seq_run0 (stp_move (.dat _) rfl) ?_
    obtain ⟨r4, h5, H⟩ := bnd H
    refine seq_run0 (stp_call (k_gatemake_Below (wr ((wr (s1.at_ + 1)) * 7919)) n2 r4 h5) ⟨.inl rfl, .inl rfl, trivial⟩) ?_
    refine seq_run0 (stp_assign (.dat _) rfl) ?_
    refine awp_ret ?_
    cases H
    exact ⟨trivial, ⟨.inl rfl, trivial⟩, rfl⟩
  · replace H := iff_ h3 H
    refine awp_skip ?_
    refine awp_seq ?_
    refine awp_draw mixed hN rfl rfl ?_
    refine seq_run0 (stp_move (.ptr _ _) rfl) ?_
    refine seq_run0 (stp_nilP rfl) ?_
    refine seq_run0 (stp_fldP tyF25_1 rfl) ?_
    refine seq_run1 (stp_load1 tyS3 rfl rfl) rfl ?_
    refine seq_run0 (stp_wrap _ rfl rfl (.inr (.inl ⟨rfl, rfl⟩))) ?_
    refine seq_run0 (stp_move (.ptr _ _) rfl) ?_
    refine seq_run0 (stp_nilP rfl) ?_
    refine seq_run0 (stp_fldP tyF25_0 rfl) ?_
    refine seq_run1 (stp_load1 tyS22 rfl rfl) rfl ?_
    refine seq_run0 (t_len tyU22 rfl) ?_
    obtain ⟨h6, H⟩ := gif H
    refine seq_run0 (stp_remT rfl rfl h6) ?_
    refine seq_run0 (stp_assign (.dat _) rfl) ?_
    refine ⟨rfl, ?_⟩
    refine awp_seq ?_
    refine awp_draw mixed hN rfl rfl ?_
    refine seq_run0 (stp_move (.ptr _ _) rfl) ?_
    refine seq_run0 (stp_nilP rfl) ?_
    refine seq_run0 (stp_fldP tyF25_1 rfl) ?_
    refine seq_run1 (stp_load1 tyS3 rfl rfl) rfl ?_
    refine seq_run0 (stp_wrap _ rfl rfl (.inr (.inl ⟨rfl, rfl⟩))) ?_
    refine seq_run0 (stp_move (.ptr _ _) rfl) ?_
    refine seq_run0 (stp_nilP rfl) ?_
    refine seq_run0 (stp_fldP tyF25_0 rfl) ?_
    refine seq_run1 (stp_load1 tyS22 rfl rfl) rfl ?_
    refine seq_run0 (t_len tyU22 rfl) ?_
    obtain ⟨h7, H⟩ := gif H
    refine seq_run0 (stp_quo rfl rfl h7.1 h7.2) ?_
    refine seq_run0 (stp_assign (.dat _) rfl) ?_
    refine ⟨rfl, ?_⟩
    refine awp_seq ?_
    refine awp_plain hN rfl ?_
    refine seq_run0 (stp_move (.ptr _ _) rfl) ?_
    refine seq_run0 (stp_nilP rfl) ?_
    refine seq_run0 (stp_fldP tyF25_0 rfl) ?_
    refine seq_run1 (stp_load1 tyS22 rfl rfl) rfl ?_
    refine seq_run0 (stp_move (.dat _) rfl) ?_
    obtain ⟨x8, h9, H⟩ := bnd H
    refine seq_run0 (t_idxI tyE22 (fun _ => rfl) rfl rfl h9) ?_
    refine seq_run0 (stp_loadE1 tyS3 rfl (map_at (at_some h9).2) rfl) ?_
    obtain ⟨r10, h11, H⟩ := bnd H
    refine seq_run0 (stp_call (k_gatemake_Below x8 1073741824 r10 h11) ⟨.inl rfl, .inl rfl, trivial⟩) ?_
    refine seq_run0 (stp_move (.dat _) rfl) ?_
    refine seq_run0 (stp_move (.dat _) rfl) ?_
    refine seq_run0 (stp_wrap _ rfl rfl (.inl ⟨rfl, rfl⟩)) ?_
    refine seq_run0 (stp_wrap _ rfl rfl (.inr (.inr ⟨rfl, rfl⟩))) ?_
    refine seq_run0 (stp_wrap _ rfl rfl (.inl ⟨rfl, rfl⟩)) ?_
    refine seq_run0 (stp_move (.dat _) rfl) ?_
    obtain ⟨r12, h13, H⟩ := bnd H
    refine seq_run0 (stp_call (k_gatemake_Below (wr (r10 + (wr (((wr ((wr (s1.at_ + 1)) - 1)) / (s1.L.length : Int)) * (wr (7919 + (Int.tmod (wr ((wr (s1.at_ + 1)) - 1)) (s1.L.length : Int)))))))) n2 r12 h13) ⟨.inl rfl, .inl rfl, trivial⟩) ?_
    refine seq_run0 (stp_assign (.dat _) rfl) ?_
    refine awp_ret ?_
    cases H
    exact ⟨trivial, ⟨.inl rfl, trivial⟩, rfl⟩
theorem k_gatemake_Stream_Range (s1 : S_gatemake_Stream) (low2 : Int) (high3 : Int) (r : (Int × S_gatemake_Stream)) (H : m_gatemake_Stream_Range s1 low2 high3 = some r) : Imp Try.prog 39 25 (C_gatemake_Stream s1) [vint low2, vint high3] (resOf [vint r.1]) (C_gatemake_Stream r.2) := by
  refine imp_of (us := [vint r.1]) (cs' := (C_gatemake_Stream r.2)) (by kernel_rfl) Try.func39 rfl rfl rfl rfl fun X bl hN => ?_
  unfold m_gatemake_Stream_Range at H
  refine awp_seq ?_
  refine awp_plain hN rfl ?_
  refine seq_run0 (stp_assign (.dat _) rfl) ?_
  refine awp_seq ?_
  refine awp_seq ?_
  refine awp_plain hN rfl ?_
  refine seq_run0 (stp_move (.dat _) rfl) ?_
  refine seq_run0 (stp_move (.dat _) rfl) ?_
  refine seq_run0 (stp_lss rfl rfl) ?_
  refine awp_cond _ rfl (fun h4 => ?_) (fun h4 => ?_)
  · replace H := ift h4 H
    refine awp_seq ?_
    refine awp_plain hN rfl ?_
    refine seq_run0 (stp_move (.dat _) rfl) ?_
    refine seq_run0 (stp_assign (.dat _) rfl) ?_
    refine awp_ret ?_
    cases H
    exact ⟨trivial, ⟨.inl rfl, trivial⟩, rfl⟩
  · replace H := iff_ h4 H
    refine awp_skip ?_
    refine awp_seq ?_
    refine awp_plain hN rfl ?_
    refine seq_run0 (stp_move (.dat _) rfl) ?_
    refine seq_run0 (stp_move (.ptr _ _) rfl) ?_
    refine seq_run0 (stp_move (.dat _) rfl) ?_
    refine seq_run0 (stp_move (.dat _) rfl) ?_
    refine seq_run0 (stp_wrap _ rfl rfl (.inr (.inl ⟨rfl, rfl⟩))) ?_
    refine seq_run0 (stp_wrap _ rfl rfl (.inl ⟨rfl, rfl⟩)) ?_
    obtain ⟨r5, h6, H⟩ := bnd H
    refine seq_run2 (stp_imp (k_gatemake_Stream_Next s1 (wr ((wr (high3 - low2)) + 1)) r5 h6) rfl ⟨.inl rfl, trivial⟩ rfl) rfl ?_
    refine seq_run0 (stp_wrap _ rfl rfl (.inl ⟨rfl, rfl⟩)) ?_
    refine seq_run0 (stp_assign (.dat _) rfl) ?_
    refine awp_ret ?_
    cases H
    exact ⟨trivial, ⟨.inl rfl, trivial⟩, rfl⟩
theorem k_gatemake_Stream_Pick (s1 : S_gatemake_Stream) (l2 : (List Int)) (r : (Int × S_gatemake_Stream)) (H : m_gatemake_Stream_Pick s1 l2 = some r) : Imp Try.prog 9 25 (C_gatemake_Stream s1) [vlst (List.map C_int l2)] (resOf [vint r.1]) (C_gatemake_Stream r.2) := by
  refine imp_of (us := [vint r.1]) (cs' := (C_gatemake_Stream r.2)) (by kernel_rfl) Try.func9 rfl rfl rfl rfl fun X bl hN => ?_
  unfold m_gatemake_Stream_Pick at H
  refine awp_seq ?_
  refine awp_plain hN rfl ?_
  refine seq_run0 (stp_assign (.dat _) rfl) ?_
  refine awp_seq ?_
  refine awp_plain hN rfl ?_
  refine seq_run0 (stp_move (.dat _) rfl) ?_
  refine seq_run0 (stp_move (.ptr _ _) rfl) ?_
  refine seq_run0 (stp_move (.dat _) rfl) ?_
  refine seq_run0 (t_len tyU22 rfl) ?_
  obtain ⟨r3, h4, H⟩ := bnd H
  refine seq_run2 (stp_imp (k_gatemake_Stream_Next s1 (l2.length : Int) r3 h4) rfl ⟨.inl rfl, trivial⟩ rfl) rfl ?_
  obtain ⟨x5, h6, H⟩ := bnd H
  refine seq_run0 (t_idxI tyE22 (fun _ => rfl) rfl rfl h6) ?_
  refine seq_run0 (stp_loadE1 tyS3 rfl (map_at (at_some h6).2) rfl) ?_
  refine seq_run0 (stp_assign (.dat _) rfl) ?_
  refine awp_ret ?_
  cases H
  exact ⟨trivial, ⟨.inl rfl, trivial⟩, rfl⟩
theorem k_gatemake_Stream_Some (s1 : S_gatemake_Stream) (l2 : (List Bs)) (r : (Bs × S_gatemake_Stream)) (H : m_gatemake_Stream_Some s1 l2 = some r) : Imp Try.prog 6 25 (C_gatemake_Stream s1) [vlst (List.map C_string l2)] (resOf [vstr r.1]) (C_gatemake_Stream r.2) := by
  refine imp_of (us := [vstr r.1]) (cs' := (C_gatemake_Stream r.2)) (by kernel_rfl) Try.func6 rfl rfl rfl rfl fun X bl hN => ?_
  unfold m_gatemake_Stream_Some at H
  refine awp_seq ?_
  refine awp_plain hN rfl ?_
  refine seq_run0 (stp_assign (.dat _) rfl) ?_
  refine awp_seq ?_
  refine awp_plain hN rfl ?_
  refine seq_run0 (stp_move (.dat _) rfl) ?_
  refine seq_run0 (stp_move (.ptr _ _) rfl) ?_
  refine seq_run0 (stp_move (.dat _) rfl) ?_
  refine seq_run0 (t_len tyU59 rfl) ?_
  obtain ⟨r3, h4, H⟩ := bnd H
  refine seq_run2 (stp_imp (k_gatemake_Stream_Next s1 (l2.length : Int) r3 h4) rfl ⟨.inl rfl, trivial⟩ rfl) rfl ?_
  obtain ⟨x5, h6, H⟩ := bnd H
  refine seq_run0 (t_idxI tyE59 (fun _ => rfl) rfl rfl h6) ?_
  refine seq_run0 (stp_loadE1 tyS9 rfl (map_at (at_some h6).2) rfl) ?_
  refine seq_run0 (stp_assign (.dat _) rfl) ?_
  refine awp_ret ?_
  cases H
  exact ⟨trivial, ⟨.inl rfl, trivial⟩, rfl⟩
theorem k_gatemake_Stream_RightSigners (s1 : S_gatemake_Stream) (r : ((List S_api_Signer) × S_gatemake_Stream)) (H : m_gatemake_Stream_RightSigners s1 = some r) : Imp Try.prog 26 25 (C_gatemake_Stream s1) [] (resOf [vlst (List.map C_api_Signer r.1)]) (C_gatemake_Stream r.2) := by
  refine imp_of (us := [vlst (List.map C_api_Signer r.1)]) (cs' := (C_gatemake_Stream r.2)) (by kernel_rfl) Try.func26 rfl rfl rfl rfl fun X bl hN => ?_
  unfold m_gatemake_Stream_RightSigners at H
  refine awp_seq ?_
  refine awp_plain hN rfl ?_
  refine seq_run0 (stp_assign (.dat _) rfl) ?_
  refine awp_seq ?_
  refine awp_plain hN rfl ?_
  refine seq_run0 (stp_assign (.dat _) rfl) ?_
  refine awp_seq ?_
  refine awp_plain hN rfl ?_
  refine seq_run0 (stp_assign (.dat _) rfl) ?_
  refine awp_seq ?_
  refine awp_seq ?_
  refine awp_plain hN rfl ?_
  refine seq_run0 (stp_dat (u' := vlst (List.map C_string [[115, 49], [115, 50], [115, 51]])) (stp_lit [[_], [_], [_]] tyL59 ⟨rfl, .inl ⟨_, rfl, rfl, rfl⟩, rfl, rfl, .inl ⟨_, rfl, rfl, rfl⟩, rfl, rfl, .inl ⟨_, rfl, rfl, rfl⟩, rfl, trivial⟩ rfl rfl) rfl) ?_
  refine seq_run0 (stp_move (.ptr _ _) rfl) ?_
  obtain ⟨r2, h3, H⟩ := bnd H
  refine seq_run2 (stp_imp (k_gatemake_Stream_Range s1 0 3 r2 h3) rfl ⟨.inl rfl, .inl rfl, trivial⟩ rfl) rfl ?_
  obtain ⟨l4, h5, H⟩ := bnd H
  refine seq_run0 (t_subL tyE59 (fun _ => rfl) rfl rfl rfl h5) ?_
  refine seq_run0 (t_len tyU59 rfl) ?_
  refine seq_run0 (stp_move (.dat _) rfl) ?_
  refine awp_block ?_
  refine awp_nilrow 3 1 38 5 rfl rfl rfl ?_
  obtain ⟨h12, H⟩ := gif H
  refine awp_forL (fun (k10 : Nat) (s : Int × (List Int) × Int × (List S_api_Signer)) => [(0, .ptr 0 0), (3, .row 1 s.2.2.2.length), (4, .dat (vint s.1)), (11, .dat (vlst (List.map C_string l4))), (12, .dat (vint (l4.length : Int))), (13, .dat (vint (k10 : Int)))]) (fun (k10 : Nat) (s : Int × (List Int) × Int × (List S_api_Signer)) => [(0, .box (some bl) 25 [.dat (vlst (List.map C_int s.2.1)), .dat (vint s.2.2.1)]), (1, .row 38 5 (List.map C_api_Signer s.2.2.2))]) (0, r2.2.L, r2.2.at_, []) H ⟨rfl, congrArg (Slot.row 1) (by simp), rfl, rfl, rfl, rfl, trivial⟩ ⟨rfl, rfl, trivial⟩ (fun _ _ => rfl) ?_ ?_
  · rintro ⟨v6, c7, c8, l9⟩ H
    replace H : gatemake_Stream_RightSigners_E1 v6 c7 c8 l9 = some r := H
    unfold gatemake_Stream_RightSigners_E1 at H
    refine awp_seq ?_
    refine awp_plain hN rfl ?_
    refine seq_run0 (stp_lss rfl rfl) ?_
    refine awp_seq ?_
    refine awp_cond _ rfl (fun h => (lt_t h).elim) (fun h => ?_)
    refine awp_exit ?_
    refine awp_seq ?_
    refine awp_plain hN rfl ?_
    refine seq_run0 (stp_move (.row _ _) rfl) ?_
    refine seq_run0 (stp_assign (.row _ _) rfl) ?_
    refine awp_ret ?_
    cases H
    exact ⟨trivial, ⟨t_slotv rfl rfl, trivial⟩, rfl⟩
  · rintro k10 x13 ⟨v6, c7, c8, l9⟩ q11 h14 h15 H hq11
    replace H : gatemake_Stream_RightSigners_L1 k10 x13 v6 c7 c8 l9 = some q11 := H
    unfold gatemake_Stream_RightSigners_L1 at H
    refine awp_seq ?_
    refine awp_plain hN rfl ?_
    refine seq_run0 (stp_lss rfl rfl) ?_
    refine awp_seq ?_
    refine awp_cond _ rfl (fun h => ?_) (fun h => (lt_f h14 h).elim)
    refine awp_skip ?_
    refine awp_seq ?_
    refine awp_block ?_
    refine awp_seq ?_
    refine awp_plain hN rfl ?_
    refine seq_run0 (t_idx tyE59 (fun _ => rfl) rfl rfl h15) ?_
    refine seq_run0 (stp_loadE1 tyS9 rfl (map_at h15) rfl) ?_
    refine seq_run0 (stp_assign (.dat _) rfl) ?_
    refine awp_seq ?_
    refine awp_plain hN rfl ?_
    refine seq_run0 (stp_move (.dat _) rfl) ?_
    refine seq_run0 (stp_move (.ptr _ _) rfl) ?_
    refine seq_run0 (stp_dat (u' := vlst (List.map C_int [0, 10, 50, 100])) (stp_lit [[_], [_], [_], [_]] tyL22 ⟨rfl, .inl ⟨_, rfl, rfl, rfl⟩, rfl, rfl, .inl ⟨_, rfl, rfl, rfl⟩, rfl, rfl, .inl ⟨_, rfl, rfl, rfl⟩, rfl, rfl, .inl ⟨_, rfl, rfl, rfl⟩, rfl, trivial⟩ rfl rfl) rfl) ?_
    obtain ⟨r16, h17, H⟩ := bnd H
    refine seq_run2 (stp_imp (k_gatemake_Stream_Pick (S_gatemake_Stream.mk c7 c8) [0, 10, 50, 100] r16 h17) rfl ⟨.inl rfl, trivial⟩ rfl) rfl ?_
    refine seq_run0 (stp_wrap _ rfl rfl (.inl ⟨rfl, rfl⟩)) ?_
    refine seq_run0 (stp_assign (.dat _) rfl) ?_
    refine awp_seq ?_
    refine awp_plain hN rfl ?_
    refine seq_run0 (stp_move (.dat _) rfl) ?_
    refine seq_run0 (stp_move (.ptr _ _) rfl) ?_
    refine seq_run0 (stp_dat (u' := vlst (List.map C_string [[111, 110, 101], [116, 119, 111], [107, 33]])) (stp_lit [[_], [_], [_]] tyL59 ⟨rfl, .inl ⟨_, rfl, rfl, rfl⟩, rfl, rfl, .inl ⟨_, rfl, rfl, rfl⟩, rfl, rfl, .inl ⟨_, rfl, rfl, rfl⟩, rfl, trivial⟩ rfl rfl) rfl) ?_
    obtain ⟨r18, h19, H⟩ := bnd H
    refine seq_run2 (stp_imp (k_gatemake_Stream_Some r16.2 ([[111, 110, 101], [116, 119, 111], [107, 33]]) r18 h19) rfl ⟨.inl rfl, trivial⟩ rfl) rfl ?_
    refine seq_run0 (stp_move (.dat _) rfl) ?_
    refine seq_run0 (stp_dat (u' := vagg (C_api_Signer (S_api_Signer.mk x13 r18.1 (wr (v6 + r16.1)) 0 0))) (stp_build [(0, [vstr x13]), (1, [vstr r18.1]), (2, [vint (wr (v6 + r16.1))])] tyZ38 tyP38 rfl ⟨rfl, .inl ⟨_, rfl, rfl, rfl⟩, rfl, rfl, .inl ⟨_, rfl, rfl, rfl⟩, rfl, rfl, .inl ⟨_, rfl, rfl, rfl⟩, rfl, trivial⟩) rfl) ?_
    refine seq_run2 (stp_alloc 2 tyZ38 rfl) rfl ?_
    refine seq_run2 (stp_storeW tyS38 rfl rfl rfl rfl) rfl ?_
    refine awp_seq ?_
    refine awp_plain hN rfl ?_
    refine seq_run0 (stp_move (.dat _) rfl) ?_
    refine seq_run0 (stp_move (.ptr _ _) rfl) ?_
    refine seq_run0 (stp_dat (u' := vlst (List.map C_int [0, 10, 100, 200])) (stp_lit [[_], [_], [_], [_]] tyL22 ⟨rfl, .inl ⟨_, rfl, rfl, rfl⟩, rfl, rfl, .inl ⟨_, rfl, rfl, rfl⟩, rfl, rfl, .inl ⟨_, rfl, rfl, rfl⟩, rfl, rfl, .inl ⟨_, rfl, rfl, rfl⟩, rfl, trivial⟩ rfl rfl) rfl) ?_
    obtain ⟨r20, h21, H⟩ := bnd H
    refine seq_run2 (stp_imp (k_gatemake_Stream_Pick r18.2 [0, 10, 100, 200] r20 h21) rfl ⟨.inl rfl, trivial⟩ rfl) rfl ?_
    refine seq_run0 (stp_wrap _ rfl rfl (.inl ⟨rfl, rfl⟩)) ?_
    refine seq_run0 (stp_fldP tyF38_3 rfl) ?_
    refine seq_run2 (stp_store1 tyS3 rfl rfl rfl rfl) rfl ?_
    refine awp_seq ?_
    refine awp_draw mixed hN rfl rfl ?_
    refine seq_run0 (stp_fldP tyF38_3 rfl) ?_
    refine seq_run1 (stp_load1 tyS3 rfl rfl) rfl ?_
    refine seq_run0 (stp_move (.ptr _ _) rfl) ?_
    refine seq_run0 (stp_dat (u' := vlst (List.map C_int [0, 5, 100, 1000])) (stp_lit [[_], [_], [_], [_]] tyL22 ⟨rfl, .inl ⟨_, rfl, rfl, rfl⟩, rfl, rfl, .inl ⟨_, rfl, rfl, rfl⟩, rfl, rfl, .inl ⟨_, rfl, rfl, rfl⟩, rfl, rfl, .inl ⟨_, rfl, rfl, rfl⟩, rfl, trivial⟩ rfl rfl) rfl) ?_
    obtain ⟨r22, h23, H⟩ := bnd H
    refine seq_run2 (stp_imp (k_gatemake_Stream_Pick r20.2 [0, 5, 100, 1000] r22 h23) rfl ⟨.inl rfl, trivial⟩ rfl) rfl ?_
    refine seq_run0 (stp_wrap _ rfl rfl (.inl ⟨rfl, rfl⟩)) ?_
    refine seq_run0 (stp_fldP tyF38_4 rfl) ?_
    refine seq_run2 (stp_store1 tyS3 rfl rfl rfl rfl) rfl ?_
    refine ⟨rfl, ?_⟩
    refine awp_plain hN rfl ?_
    refine seq_run0 (stp_move (.row _ _) rfl) ?_
    refine seq_run1 (stp_loadA tyS38 rfl rfl rfl) rfl ?_
    refine seq_run0 (stp_dat (u' := vlst (List.map C_api_Signer [(S_api_Signer.mk x13 r18.1 (wr (v6 + r16.1)) (wr ((wr (v6 + r16.1)) + r20.1)) (wr ((wr ((wr (v6 + r16.1)) + r20.1)) + r22.1)))])) (stp_lit [_] tyL26 ⟨rfl, .inr rfl, rfl, trivial⟩ rfl rfl) rfl) ?_
    obtain ⟨h24, H⟩ := gif H
    refine seq_run2 (t_app tyL26 (fun _ => rfl) rfl rfl rfl ⟨by simp, by simpa using h24⟩ rfl) rfl ?_
    refine seq_run0 (stp_assign (.row _ _) rfl) ?_
    refine awp_plain hN rfl ?_
    refine seq_run0 (stp_add rfl rfl (by omega)) ?_
    refine seq_run0 (stp_move (.dat _) rfl) ?_
    exact ⟨_, backl H, ⟨rfl, rfl, rfl, rfl, rfl, rfl, trivial⟩, ⟨rfl, rfl, trivial⟩⟩
theorem k_gatemake_Stream_Flip (s1 : S_gatemake_Stream) (n2 : Int) (r : (Bool × S_gatemake_Stream)) (H : m_gatemake_Stream_Flip s1 n2 = some r) : Imp Try.prog 15 25 (C_gatemake_Stream s1) [vint n2] (resOf [vbool r.1]) (C_gatemake_Stream r.2) := by
  refine imp_of (us := [vbool r.1]) (cs' := (C_gatemake_Stream r.2)) (by kernel_rfl) Try.func15 rfl rfl rfl rfl fun X bl hN => ?_
  unfold m_gatemake_Stream_Flip at H
  refine awp_seq ?_
  refine awp_plain hN rfl ?_
  refine seq_run0 (stp_assign (.dat _) rfl) ?_
  refine awp_seq ?_
  refine awp_plain hN rfl ?_
  refine seq_run0 (stp_move (.ptr _ _) rfl) ?_
  refine seq_run0 (stp_move (.dat _) rfl) ?_
  obtain ⟨r3, h4, H⟩ := bnd H
  refine seq_run2 (stp_imp (k_gatemake_Stream_Next s1 n2 r3 h4) rfl ⟨.inl rfl, trivial⟩ rfl) rfl ?_
  refine seq_run0 (stp_eql rfl rfl) ?_
  refine seq_run0 (stp_assign (.dat _) rfl) ?_
  refine awp_ret ?_
  cases H
  exact ⟨trivial, ⟨.inl rfl, trivial⟩, rfl⟩
theorem kr_gatemake_Stream_RightSigners (s1 : S_gatemake_Stream) (r : ((List S_api_Signer) × S_gatemake_Stream)) (H : m_gatemake_Stream_RightSigners s1 = some r) : FnG Try.prog 26 [.ptr 0 0] [(0, .box (some 0) 25 (List.map .dat (C_gatemake_Stream s1)))] (.row 1 r.1.length) [(0, .box (some 0) 25 (List.map .dat (C_gatemake_Stream r.2))), (1, .row 38 5 (List.map C_api_Signer r.1))] := by
  refine fnG_of (by kernel_rfl) Try.func26 rfl rfl rfl rfl fun X A hN => ?_
  unfold m_gatemake_Stream_RightSigners at H
  refine awp_seq ?_
  refine awp_plain hN rfl ?_
  refine seq_run0 (stp_assign (.dat _) rfl) ?_
  refine awp_seq ?_
  refine awp_plain hN rfl ?_
  refine seq_run0 (stp_assign (.dat _) rfl) ?_
  refine awp_seq ?_
  refine awp_plain hN rfl ?_
  refine seq_run0 (stp_assign (.dat _) rfl) ?_
  refine awp_seq ?_
  refine awp_seq ?_
  refine awp_plain hN rfl ?_
  refine seq_run0 (stp_dat (u' := vlst (List.map C_string [[115, 49], [115, 50], [115, 51]])) (stp_lit [[_], [_], [_]] tyL59 ⟨rfl, .inl ⟨_, rfl, rfl, rfl⟩, rfl, rfl, .inl ⟨_, rfl, rfl, rfl⟩, rfl, rfl, .inl ⟨_, rfl, rfl, rfl⟩, rfl, trivial⟩ rfl rfl) rfl) ?_
  refine seq_run0 (stp_move (.ptr _ _) rfl) ?_
  obtain ⟨r2, h3, H⟩ := bnd H
  refine seq_run2 (stp_imp (k_gatemake_Stream_Range s1 0 3 r2 h3) rfl ⟨.inl rfl, .inl rfl, trivial⟩ rfl) rfl ?_
  obtain ⟨l4, h5, H⟩ := bnd H
  refine seq_run0 (t_subL tyE59 (fun _ => rfl) rfl rfl rfl h5) ?_
  refine seq_run0 (t_len tyU59 rfl) ?_
  refine seq_run0 (stp_move (.dat _) rfl) ?_
  refine awp_block ?_
  refine awp_nilrow 3 1 38 5 rfl rfl rfl ?_
  obtain ⟨h12, H⟩ := gif H
  refine awp_forL (fun (k10 : Nat) (s : Int × (List Int) × Int × (List S_api_Signer)) => [(0, .ptr 0 0), (3, .row 1 s.2.2.2.length), (4, .dat (vint s.1)), (11, .dat (vlst (List.map C_string l4))), (12, .dat (vint (l4.length : Int))), (13, .dat (vint (k10 : Int)))]) (fun (k10 : Nat) (s : Int × (List Int) × Int × (List S_api_Signer)) => [(0, .box (some (A.bl 0)) 25 [.dat (vlst (List.map C_int s.2.1)), .dat (vint s.2.2.1)]), (1, .row 38 5 (List.map C_api_Signer s.2.2.2))]) (0, r2.2.L, r2.2.at_, []) H ⟨rfl, congrArg (Slot.row 1) (by simp), rfl, rfl, rfl, rfl, trivial⟩ ⟨rfl, rfl, trivial⟩ (fun _ _ => rfl) ?_ ?_
  · rintro ⟨v6, c7, c8, l9⟩ H
    replace H : gatemake_Stream_RightSigners_E1 v6 c7 c8 l9 = some r := H
    unfold gatemake_Stream_RightSigners_E1 at H
    refine awp_seq ?_
    refine awp_plain hN rfl ?_
    refine seq_run0 (stp_lss rfl rfl) ?_
    refine awp_seq ?_
    refine awp_cond _ rfl (fun h => (lt_t h).elim) (fun h => ?_)
    refine awp_exit ?_
    refine awp_seq ?_
    refine awp_plain hN rfl ?_
    refine seq_run0 (stp_move (.row _ _) rfl) ?_
    refine seq_run0 (stp_assign (.row _ _) rfl) ?_
    refine awp_ret ?_
    cases H
    exact ⟨trivial, [(2, .row 1 _)], ⟨rfl, trivial⟩, ⟨rfl, rfl, trivial⟩, rfl, .inr ⟨2, rfl, rfl⟩⟩
  · rintro k10 x13 ⟨v6, c7, c8, l9⟩ q11 h14 h15 H hq11
    replace H : gatemake_Stream_RightSigners_L1 k10 x13 v6 c7 c8 l9 = some q11 := H
    unfold gatemake_Stream_RightSigners_L1 at H
    refine awp_seq ?_
    refine awp_plain hN rfl ?_
    refine seq_run0 (stp_lss rfl rfl) ?_
    refine awp_seq ?_
    refine awp_cond _ rfl (fun h => ?_) (fun h => (lt_f h14 h).elim)
    refine awp_skip ?_
    refine awp_seq ?_
    refine awp_block ?_
    refine awp_seq ?_
    refine awp_plain hN rfl ?_
    refine seq_run0 (t_idx tyE59 (fun _ => rfl) rfl rfl h15) ?_
    refine seq_run0 (stp_loadE1 tyS9 rfl (map_at h15) rfl) ?_
    refine seq_run0 (stp_assign (.dat _) rfl) ?_
    refine awp_seq ?_
    refine awp_plain hN rfl ?_
    refine seq_run0 (stp_move (.dat _) rfl) ?_
    refine seq_run0 (stp_move (.ptr _ _) rfl) ?_
    refine seq_run0 (stp_dat (u' := vlst (List.map C_int [0, 10, 50, 100])) (stp_lit [[_], [_], [_], [_]] tyL22 ⟨rfl, .inl ⟨_, rfl, rfl, rfl⟩, rfl, rfl, .inl ⟨_, rfl, rfl, rfl⟩, rfl, rfl, .inl ⟨_, rfl, rfl, rfl⟩, rfl, rfl, .inl ⟨_, rfl, rfl, rfl⟩, rfl, trivial⟩ rfl rfl) rfl) ?_
    obtain ⟨r16, h17, H⟩ := bnd H
    refine seq_run2 (stp_imp (k_gatemake_Stream_Pick (S_gatemake_Stream.mk c7 c8) [0, 10, 50, 100] r16 h17) rfl ⟨.inl rfl, trivial⟩ rfl) rfl ?_
    refine seq_run0 (stp_wrap _ rfl rfl (.inl ⟨rfl, rfl⟩)) ?_
    refine seq_run0 (stp_assign (.dat _) rfl) ?_
    refine awp_seq ?_
    refine awp_plain hN rfl ?_
    refine seq_run0 (stp_move (.dat _) rfl) ?_
    refine seq_run0 (stp_move (.ptr _ _) rfl) ?_
    refine seq_run0 (stp_dat (u' := vlst (List.map C_string [[111, 110, 101], [116, 119, 111], [107, 33]])) (stp_lit [[_], [_], [_]] tyL59 ⟨rfl, .inl ⟨_, rfl, rfl, rfl⟩, rfl, rfl, .inl ⟨_, rfl, rfl, rfl⟩, rfl, rfl, .inl ⟨_, rfl, rfl, rfl⟩, rfl, trivial⟩ rfl rfl) rfl) ?_
    obtain ⟨r18, h19, H⟩ := bnd H
    refine seq_run2 (stp_imp (k_gatemake_Stream_Some r16.2 ([[111, 110, 101], [116, 119, 111], [107, 33]]) r18 h19) rfl ⟨.inl rfl, trivial⟩ rfl) rfl ?_
    refine seq_run0 (stp_move (.dat _) rfl) ?_
    refine seq_run0 (stp_dat (u' := vagg (C_api_Signer (S_api_Signer.mk x13 r18.1 (wr (v6 + r16.1)) 0 0))) (stp_build [(0, [vstr x13]), (1, [vstr r18.1]), (2, [vint (wr (v6 + r16.1))])] tyZ38 tyP38 rfl ⟨rfl, .inl ⟨_, rfl, rfl, rfl⟩, rfl, rfl, .inl ⟨_, rfl, rfl, rfl⟩, rfl, rfl, .inl ⟨_, rfl, rfl, rfl⟩, rfl, trivial⟩) rfl) ?_
    refine seq_run2 (stp_alloc 2 tyZ38 rfl) rfl ?_
    refine seq_run2 (stp_storeW tyS38 rfl rfl rfl rfl) rfl ?_
    refine awp_seq ?_
    refine awp_plain hN rfl ?_
    refine seq_run0 (stp_move (.dat _) rfl) ?_
    refine seq_run0 (stp_move (.ptr _ _) rfl) ?_
    refine seq_run0 (stp_dat (u' := vlst (List.map C_int [0, 10, 100, 200])) (stp_lit [[_], [_], [_], [_]] tyL22 ⟨rfl, .inl ⟨_, rfl, rfl, rfl⟩, rfl, rfl, .inl ⟨_, rfl, rfl, rfl⟩, rfl, rfl, .inl ⟨_, rfl, rfl, rfl⟩, rfl, rfl, .inl ⟨_, rfl, rfl, rfl⟩, rfl, trivial⟩ rfl rfl) rfl) ?_
    obtain ⟨r20, h21, H⟩ := bnd H
    refine seq_run2 (stp_imp (k_gatemake_Stream_Pick r18.2 [0, 10, 100, 200] r20 h21) rfl ⟨.inl rfl, trivial⟩ rfl) rfl ?_
    refine seq_run0 (stp_wrap _ rfl rfl (.inl ⟨rfl, rfl⟩)) ?_
    refine seq_run0 (stp_fldP tyF38_3 rfl) ?_
    refine seq_run2 (stp_store1 tyS3 rfl rfl rfl rfl) rfl ?_
    refine awp_seq ?_
    refine awp_draw mixed hN rfl rfl ?_
    refine seq_run0 (stp_fldP tyF38_3 rfl) ?_
    refine seq_run1 (stp_load1 tyS3 rfl rfl) rfl ?_
    refine seq_run0 (stp_move (.ptr _ _) rfl) ?_
    refine seq_run0 (stp_dat (u' := vlst (List.map C_int [0, 5, 100, 1000])) (stp_lit [[_], [_], [_], [_]] tyL22 ⟨rfl, .inl ⟨_, rfl, rfl, rfl⟩, rfl, rfl, .inl ⟨_, rfl, rfl, rfl⟩, rfl, rfl, .inl ⟨_, rfl, rfl, rfl⟩, rfl, rfl, .inl ⟨_, rfl, rfl, rfl⟩, rfl, trivial⟩ rfl rfl) rfl) ?_
    obtain ⟨r22, h23, H⟩ := bnd H
    refine seq_run2 (stp_imp (k_gatemake_Stream_Pick r20.2 [0, 5, 100, 1000] r22 h23) rfl ⟨.inl rfl, trivial⟩ rfl) rfl ?_
    refine seq_run0 (stp_wrap _ rfl rfl (.inl ⟨rfl, rfl⟩)) ?_
    refine seq_run0 (stp_fldP tyF38_4 rfl) ?_
    refine seq_run2 (stp_store1 tyS3 rfl rfl rfl rfl) rfl ?_
    refine ⟨rfl, ?_⟩
    refine awp_plain hN rfl ?_
    refine seq_run0 (stp_move (.row _ _) rfl) ?_
    refine seq_run1 (stp_loadA tyS38 rfl rfl rfl) rfl ?_
    refine seq_run0 (stp_dat (u' := vlst (List.map C_api_Signer [(S_api_Signer.mk x13 r18.1 (wr (v6 + r16.1)) (wr ((wr (v6 + r16.1)) + r20.1)) (wr ((wr ((wr (v6 + r16.1)) + r20.1)) + r22.1)))])) (stp_lit [_] tyL26 ⟨rfl, .inr rfl, rfl, trivial⟩ rfl rfl) rfl) ?_
    obtain ⟨h24, H⟩ := gif H
    refine seq_run2 (t_app tyL26 (fun _ => rfl) rfl rfl rfl ⟨by simp, by simpa using h24⟩ rfl) rfl ?_
    refine seq_run0 (stp_assign (.row _ _) rfl) ?_
    refine awp_plain hN rfl ?_
    refine seq_run0 (stp_add rfl rfl (by omega)) ?_
    refine seq_run0 (stp_move (.dat _) rfl) ?_
    exact ⟨_, backl H, ⟨rfl, rfl, rfl, rfl, rfl, rfl, trivial⟩, ⟨rfl, rfl, trivial⟩⟩
theorem k_strings_Repeat (s : Bs) (n : Int) (r : Bs) (H : m_strings_Repeat s n = some r) : Fn Try.prog 28 [vstr s, vint n] (resOf [vstr r]) := by
  obtain ⟨h0, h1, h2, rfl⟩ := repeat_some H
  obtain ⟨c, rfl⟩ := Int.eq_ofNat_of_zero_le h0
  refine fn_of_calls (by kernel_rfl) fun M w vs h => ?_
  have hv := Ts_vals (us := [.string ⟨s.toArray⟩, .int .i64 c]) h
  subst hv
  have hs : (ByteArray.mk s.toArray).size = s.length := by simp [ByteArray.size]
  refine (Try.strings_Repeat ⟨s.toArray⟩ c w (by omega) (by rw [hs]; exact Nat.le_trans (Nat.mul_le_mul h2 (show c ≤ 1000000 by omega)) (by decide))).mono ?_
  rintro e w' ⟨rfl, hb⟩
  exact ⟨_, rfl, by simp [resOf, vstr, vval], Kp.of_below hb⟩
theorem k_gatemake_Stream_Secret (s1 : S_gatemake_Stream) (r : (Bs × S_gatemake_Stream)) (H : m_gatemake_Stream_Secret s1 = some r) : Imp Try.prog 7 25 (C_gatemake_Stream s1) [] (resOf [vstr r.1]) (C_gatemake_Stream r.2) := by
  refine imp_of (us := [vstr r.1]) (cs' := (C_gatemake_Stream r.2)) (by kernel_rfl) Try.func7 rfl rfl rfl rfl fun X bl hN => ?_
  unfold m_gatemake_Stream_Secret at H
  refine awp_seq ?_
  refine awp_plain hN rfl ?_
  refine seq_run0 (stp_assign (.dat _) rfl) ?_
  refine awp_seq ?_
  refine awp_plain hN rfl ?_
  refine seq_run0 (stp_move (.ptr _ _) rfl) ?_
  obtain ⟨r2, h3, H⟩ := bnd H
  refine seq_run0 (stp_call (k_strings_Repeat [115] 101 r2 h3) ⟨.inl rfl, .inl rfl, trivial⟩) ?_
  refine seq_run0 (stp_dat (u' := vlst (List.map C_string [[111, 110, 101], [116, 119, 111], [116, 104, 114, 101, 101], [107, 33], [111, 110, 101], [], [97, 32, 98], [127], r2])) (stp_lit [[_], [_], [_], [_], [_], [_], [_], [_], [_]] tyL59 ⟨rfl, .inl ⟨_, rfl, rfl, rfl⟩, rfl, rfl, .inl ⟨_, rfl, rfl, rfl⟩, rfl, rfl, .inl ⟨_, rfl, rfl, rfl⟩, rfl, rfl, .inl ⟨_, rfl, rfl, rfl⟩, rfl, rfl, .inl ⟨_, rfl, rfl, rfl⟩, rfl, rfl, .inl ⟨_, rfl, rfl, rfl⟩, rfl, rfl, .inl ⟨_, rfl, rfl, rfl⟩, rfl, rfl, .inl ⟨_, rfl, rfl, rfl⟩, rfl, rfl, .inl ⟨_, rfl, rfl, rfl⟩, rfl, trivial⟩ rfl rfl) rfl) ?_
  obtain ⟨r4, h5, H⟩ := bnd H
  refine seq_run2 (stp_imp (k_gatemake_Stream_Some s1 ([[111, 110, 101], [116, 119, 111], [116, 104, 114, 101, 101], [107, 33], [111, 110, 101], [], [97, 32, 98], [127], r2]) r4 h5) rfl ⟨.inl rfl, trivial⟩ rfl) rfl ?_
  refine seq_run0 (stp_assign (.dat _) rfl) ?_
  refine awp_ret ?_
  cases H
  exact ⟨trivial, ⟨.inl rfl, trivial⟩, rfl⟩
theorem k_gatemake_Stream_Odd (s1 : S_gatemake_Stream) (low2 : Int) (high3 : Int) (r : (Int × S_gatemake_Stream)) (H : m_gatemake_Stream_Odd s1 low2 high3 = some r) : Imp Try.prog 16 25 (C_gatemake_Stream s1) [vint low2, vint high3] (resOf [vint r.1]) (C_gatemake_Stream r.2) := by
  refine imp_of (us := [vint r.1]) (cs' := (C_gatemake_Stream r.2)) (by kernel_rfl) Try.func16 rfl rfl rfl rfl fun X bl hN => ?_
  unfold m_gatemake_Stream_Odd at H
  refine awp_seq ?_
  refine awp_plain hN rfl ?_
  refine seq_run0 (stp_assign (.dat _) rfl) ?_
  refine awp_seq ?_
  refine awp_seq ?_
  refine awp_plain hN rfl ?_
  refine seq_run0 (stp_move (.ptr _ _) rfl) ?_
  obtain ⟨r4, h5, H⟩ := bnd H
  refine seq_run2 (stp_imp (k_gatemake_Stream_Flip s1 12 r4 h5) rfl ⟨.inl rfl, trivial⟩ rfl) rfl ?_
  refine awp_cond _ rfl (fun h6 => ?_) (fun h6 => ?_)
  · replace H := ift h6 H
    refine awp_seq ?_
    refine awp_plain hN rfl ?_
    refine seq_run0 (stp_move (.ptr _ _) rfl) ?_
    refine seq_run0 (stp_move (.dat _) rfl) ?_
    refine seq_run0 (stp_wrap _ rfl rfl (.inr (.inl ⟨rfl, rfl⟩))) ?_
    refine seq_run0 (stp_move (.dat _) rfl) ?_
    refine seq_run0 (stp_wrap _ rfl rfl (.inl ⟨rfl, rfl⟩)) ?_
    refine seq_run0 (stp_move (.dat _) rfl) ?_
    refine seq_run0 (stp_move (.dat _) rfl) ?_
    refine seq_run0 (stp_dat (u' := vlst (List.map C_int [wr (low2 - 1), wr (high3 + 1), low2, high3, (-1099511627776), 1099511627776])) (stp_lit [[_], [_], [_], [_], [_], [_]] tyL22 ⟨rfl, .inl ⟨_, rfl, rfl, rfl⟩, rfl, rfl, .inl ⟨_, rfl, rfl, rfl⟩, rfl, rfl, .inl ⟨_, rfl, rfl, rfl⟩, rfl, rfl, .inl ⟨_, rfl, rfl, rfl⟩, rfl, rfl, .inl ⟨_, rfl, rfl, rfl⟩, rfl, rfl, .inl ⟨_, rfl, rfl, rfl⟩, rfl, trivial⟩ rfl rfl) rfl) ?_
    obtain ⟨r7, h8, H⟩ := bnd H
    refine seq_run2 (stp_imp (k_gatemake_Stream_Pick r4.2 [wr (low2 - 1), wr (high3 + 1), low2, high3, (-1099511627776), 1099511627776] r7 h8) rfl ⟨.inl rfl, trivial⟩ rfl) rfl ?_
    refine seq_run0 (stp_assign (.dat _) rfl) ?_
    refine awp_ret ?_
    cases H
    exact ⟨trivial, ⟨.inl rfl, trivial⟩, rfl⟩
  · replace H := iff_ h6 H
    refine awp_skip ?_
    refine awp_seq ?_
    refine awp_plain hN rfl ?_
    refine seq_run0 (stp_move (.ptr _ _) rfl) ?_
    refine seq_run0 (stp_move (.dat _) rfl) ?_
    refine seq_run0 (stp_move (.dat _) rfl) ?_
    obtain ⟨r9, h10, H⟩ := bnd H
    refine seq_run2 (stp_imp (k_gatemake_Stream_Range r4.2 low2 high3 r9 h10) rfl ⟨.inl rfl, .inl rfl, trivial⟩ rfl) rfl ?_
    refine seq_run0 (stp_assign (.dat _) rfl) ?_
    refine awp_ret ?_
    cases H
    exact ⟨trivial, ⟨.inl rfl, trivial⟩, rfl⟩
theorem k_gatemake_Stream_Signers (s1 : S_gatemake_Stream) (r : ((List S_api_Signer) × S_gatemake_Stream)) (H : m_gatemake_Stream_Signers s1 = some r) : Imp Try.prog 5 25 (C_gatemake_Stream s1) [] (resOf [vlst (List.map C_api_Signer r.1)]) (C_gatemake_Stream r.2) := by
  refine imp_of (us := [vlst (List.map C_api_Signer r.1)]) (cs' := (C_gatemake_Stream r.2)) (by kernel_rfl) Try.func5 rfl rfl rfl rfl fun X bl hN => ?_
  unfold m_gatemake_Stream_Signers at H
  refine awp_seq ?_
  refine awp_plain hN rfl ?_
  refine seq_run0 (stp_assign (.dat _) rfl) ?_
  refine awp_seq ?_
  refine awp_plain hN rfl ?_
  refine seq_run0 (stp_move (.ptr _ _) rfl) ?_
  obtain ⟨r2, h3, H⟩ := bnd H
  refine seq_callG (rn [(0, 0), (1, 1)]) [(0, _, _, some _)] [(1, _)] (kr_gatemake_Stream_RightSigners s1 r2 h3) ⟨rfl, rfl, trivial⟩ ⟨.inl (.inl rfl), trivial⟩ ⟨⟨⟨rfl, rfl⟩, trivial⟩, trivial⟩ rfl ?_
  refine seq_run0 (stp_assign (.row _ _) rfl) ?_
  refine awp_joinE (ι := (List S_api_Signer) × (List Int) × Int) (fun i => [(3, .row 1 i.1.length)]) (fun i => [(0, .box (some bl) 25 [.dat (vlst (List.map C_int i.2.1)), .dat (vint i.2.2)]), (1, .row 38 5 (List.map C_api_Signer i.1))]) (fun i => gatemake_Stream_Signers_J1 i.1 i.2.1 i.2.2 = some r) (fun i => rfl) ?_ ?_
  · skip
    refine awp_joinE (ι := Bool × (List Int) × Int) (fun i => [(0, .ptr 0 0), (3, .row 1 r2.1.length), (13, .dat (vbool i.1))]) (fun i => [(0, .box (some bl) 25 [.dat (vlst (List.map C_int i.2.1)), .dat (vint i.2.2)]), (1, .row 38 5 (List.map C_api_Signer r2.1))]) (fun i => gatemake_Stream_Signers_J2 r2 i.1 i.2.1 i.2.2 = some r) (fun i => rfl) ?_ ?_
    · skip
      refine awp_plain hN rfl ?_
      refine seq_run0 (stp_move (.row _ _) rfl) ?_
      refine seq_run1 (t_lenR tyU26 rfl rfl) rfl ?_
      refine seq_run0 (stp_gtr rfl rfl) ?_
      refine seq_run0 (stp_move (.dat _) rfl) ?_
      refine seq_split (j := 3) rfl rfl (fun h4 => ?_) (fun h4 => ?_) rfl
      · have h5 := un1 h4
        replace H := ift h5 H
        refine seq_g0 rfl rfl h4 (stp_move (.ptr _ _) rfl) ?_
        obtain ⟨r6, h7, H⟩ := bnd H
        refine seq_g2 rfl rfl h4 (stp_imp (k_gatemake_Stream_Flip r2.2 12 r6 h7) rfl ⟨.inl rfl, trivial⟩ rfl) rfl ?_
        refine seq_run0 (stp_pick_t rfl (bTT h5) rfl) ?_
        exact ⟨(r6.1, r6.2.L, r6.2.at_), H, ⟨rfl, rfl, rfl, trivial⟩, ⟨rfl, rfl, trivial⟩⟩
      · have h8 := un2 h4
        replace H := iff_ h8 H
        refine seq_skip rfl rfl h4 ?_
        refine seq_skip rfl rfl h4 ?_
        refine seq_run0 (stp_pick_f rfl (bFF h8) rfl) ?_
        exact ⟨(false, r2.2.L, r2.2.at_), H, ⟨rfl, rfl, rfl, trivial⟩, ⟨rfl, rfl, trivial⟩⟩
    · rintro ⟨v9, c10, c11⟩ H
      replace H : gatemake_Stream_Signers_J2 r2 v9 c10 c11 = some r := H
      unfold gatemake_Stream_Signers_J2 at H
      refine awp_cond _ rfl (fun h12 => ?_) (fun h12 => ?_)
      · replace H := ift h12 H
        refine awp_seq ?_
        refine awp_plain hN rfl ?_
        refine seq_run0 (stp_move (.row _ _) rfl) ?_
        refine seq_run0 (stp_move (.ptr _ _) rfl) ?_
        refine seq_run0 (stp_move (.row _ _) rfl) ?_
        refine seq_run1 (t_lenR tyU26 rfl rfl) rfl ?_
        obtain ⟨r13, h14, H⟩ := bnd H
        refine seq_run2 (stp_imp (k_gatemake_Stream_Next (S_gatemake_Stream.mk c10 c11) (r2.1.length : Int) r13 h14) rfl ⟨.inl rfl, trivial⟩ rfl) rfl ?_
        obtain ⟨x15, h16, H⟩ := bnd H
        refine seq_run1 (t_idxRI tyE26 rfl rfl rfl h16) rfl ?_
        refine seq_run0 (stp_assign (.rptr _ _ _ _ _) rfl) ?_
        refine awp_seq ?_
        refine awp_plain hN rfl ?_
        refine seq_run0 (stp_move (.ptr _ _) rfl) ?_
        obtain ⟨r17, h18, H⟩ := bnd H
        refine seq_run2 (stp_imp (k_gatemake_Stream_Next r13.2 3 r17 h18) rfl ⟨.inl rfl, trivial⟩ rfl) rfl ?_
        refine awp_block ?_
        refine awp_seq ?_
        refine awp_plain hN rfl ?_
        refine seq_run0 (stp_eql rfl rfl) ?_
        refine seq_run0 (stp_assign (.dat _) rfl) ?_
        refine awp_cond _ rfl (fun h19 => ?_) (fun h19 => ?_)
        · replace H := ift h19 H
          refine awp_plain hN rfl ?_
          refine seq_run0 (stp_move (.rptr _ _ _ _ _) rfl) ?_
          refine seq_run0 (stp_move (.ptr _ _) rfl) ?_
          refine seq_run0 (stp_dat (u' := vlst (List.map C_string [[], [65], [115, 49]])) (stp_lit [[_], [_], [_]] tyL59 ⟨rfl, .inl ⟨_, rfl, rfl, rfl⟩, rfl, rfl, .inl ⟨_, rfl, rfl, rfl⟩, rfl, rfl, .inl ⟨_, rfl, rfl, rfl⟩, rfl, trivial⟩ rfl rfl) rfl) ?_
          obtain ⟨r20, h21, H⟩ := bnd H
          refine seq_run2 (stp_imp (k_gatemake_Stream_Some r17.2 ([[], [65], [115, 49]]) r20 h21) rfl ⟨.inl rfl, trivial⟩ rfl) rfl ?_
          refine seq_run0 (stp_nilR rfl) ?_
          refine seq_run0 (stp_fldR tyF38_0 rfl) ?_
          refine seq_run2 (t_storeR (S_api_Signer.mk r20.1 x15.Secret x15.From x15.To x15.Until) tyS9 rfl rfl rfl rfl (at_some h16).2 rfl rfl) rfl ?_
          exact ⟨((r2.1.set r13.1.toNat (S_api_Signer.mk r20.1 x15.Secret x15.From x15.To x15.Until)), r20.2.L, r20.2.at_), H, ⟨congrArg (Slot.row 1) (by simp), trivial⟩, ⟨rfl, rfl, trivial⟩⟩
        · replace H := iff_ h19 H
          refine awp_seq ?_
          refine awp_plain hN rfl ?_
          refine seq_run0 (stp_eql rfl rfl) ?_
          refine seq_run0 (stp_assign (.dat _) rfl) ?_
          refine awp_cond _ rfl (fun h22 => ?_) (fun h22 => ?_)
          · replace H := ift h22 H
            refine awp_plain hN rfl ?_
            refine seq_run0 (stp_move (.rptr _ _ _ _ _) rfl) ?_
            refine seq_run0 (stp_move (.ptr _ _) rfl) ?_
            obtain ⟨r23, h24, H⟩ := bnd H
            refine seq_run2 (stp_imp (k_gatemake_Stream_Secret r17.2 r23 h24) rfl trivial rfl) rfl ?_
            refine seq_run0 (stp_nilR rfl) ?_
            refine seq_run0 (stp_fldR tyF38_1 rfl) ?_
            refine seq_run2 (t_storeR (S_api_Signer.mk x15.Id r23.1 x15.From x15.To x15.Until) tyS9 rfl rfl rfl rfl (at_some h16).2 rfl rfl) rfl ?_
            exact ⟨((r2.1.set r13.1.toNat (S_api_Signer.mk x15.Id r23.1 x15.From x15.To x15.Until)), r23.2.L, r23.2.at_), H, ⟨congrArg (Slot.row 1) (by simp), trivial⟩, ⟨rfl, rfl, trivial⟩⟩
          · replace H := iff_ h22 H
            refine awp_plain hN rfl ?_
            refine seq_run0 (stp_move (.rptr _ _ _ _ _) rfl) ?_
            refine seq_run0 (stp_move (.rptr _ _ _ _ _) rfl) ?_
            refine seq_run0 (stp_move (.ptr _ _) rfl) ?_
            obtain ⟨r25, h26, H⟩ := bnd H
            refine seq_run2 (stp_imp (k_gatemake_Stream_Odd r17.2 0 300 r25 h26) rfl ⟨.inl rfl, .inl rfl, trivial⟩ rfl) rfl ?_
            refine seq_run0 (stp_move (.ptr _ _) rfl) ?_
            obtain ⟨r27, h28, H⟩ := bnd H
            refine seq_run2 (stp_imp (k_gatemake_Stream_Odd r25.2 0 300 r27 h28) rfl ⟨.inl rfl, .inl rfl, trivial⟩ rfl) rfl ?_
            refine seq_run0 (stp_nilR rfl) ?_
            refine seq_run0 (stp_fldR tyF38_2 rfl) ?_
            refine seq_run2 (t_storeR (S_api_Signer.mk x15.Id x15.Secret r25.1 x15.To x15.Until) tyS3 rfl rfl rfl rfl (at_some h16).2 rfl rfl) rfl ?_
            refine seq_run0 (stp_nilR rfl) ?_
            refine seq_run0 (stp_fldR tyF38_3 rfl) ?_
            refine seq_run2 (t_storeR (S_api_Signer.mk x15.Id x15.Secret r25.1 r27.1 x15.Until) tyS3 rfl rfl rfl (by simp) (set_at (at_some h16).2) rfl rfl) rfl ?_
            exact ⟨(((r2.1.set r13.1.toNat (S_api_Signer.mk x15.Id x15.Secret r25.1 x15.To x15.Until)).set r13.1.toNat (S_api_Signer.mk x15.Id x15.Secret r25.1 r27.1 x15.Until)), r27.2.L, r27.2.at_), H, ⟨congrArg (Slot.row 1) (by simp), trivial⟩, ⟨rfl, rfl, trivial⟩⟩
      · replace H := iff_ h12 H
        refine awp_skip ?_
        exact ⟨(r2.1, c10, c11), H, ⟨rfl, trivial⟩, ⟨rfl, rfl, trivial⟩⟩
  · rintro ⟨out29, c30, c31⟩ H
    replace H : gatemake_Stream_Signers_J1 out29 c30 c31 = some r := H
    unfold gatemake_Stream_Signers_J1 at H
    refine awp_seq ?_
    refine awp_plain hN rfl ?_
    refine seq_run0 (stp_move (.row _ _) rfl) ?_
    refine seq_run0 (stp_assign (.row _ _) rfl) ?_
    refine awp_ret ?_
    cases H
    exact ⟨trivial, ⟨t_slotv rfl rfl, trivial⟩, rfl⟩
theorem k_gatemake_Stream_Moment (s1 : S_gatemake_Stream) (r : (Int × S_gatemake_Stream)) (H : m_gatemake_Stream_Moment s1 = some r) : Imp Try.prog 8 25 (C_gatemake_Stream s1) [] (resOf [vint r.1]) (C_gatemake_Stream r.2) := by
  refine imp_of (us := [vint r.1]) (cs' := (C_gatemake_Stream r.2)) (by kernel_rfl) Try.func8 rfl rfl rfl rfl fun X bl hN => ?_
  unfold m_gatemake_Stream_Moment at H
  refine awp_seq ?_
  refine awp_plain hN rfl ?_
  refine seq_run0 (stp_assign (.dat _) rfl) ?_
  refine awp_seq ?_
  refine awp_plain hN rfl ?_
  refine seq_run0 (stp_move (.ptr _ _) rfl) ?_
  refine seq_run0 (stp_dat (u' := vlst (List.map C_int [0, 10, 49, 50, 60, 99, 100, 101, 149, 150, 200, 300, 1000, (-1), 345686400000])) (stp_lit [[_], [_], [_], [_], [_], [_], [_], [_], [_], [_], [_], [_], [_], [_], [_]] tyL22 ⟨rfl, .inl ⟨_, rfl, rfl, rfl⟩, rfl, rfl, .inl ⟨_, rfl, rfl, rfl⟩, rfl, rfl, .inl ⟨_, rfl, rfl, rfl⟩, rfl, rfl, .inl ⟨_, rfl, rfl, rfl⟩, rfl, rfl, .inl ⟨_, rfl, rfl, rfl⟩, rfl, rfl, .inl ⟨_, rfl, rfl, rfl⟩, rfl, rfl, .inl ⟨_, rfl, rfl, rfl⟩, rfl, rfl, .inl ⟨_, rfl, rfl, rfl⟩, rfl, rfl, .inl ⟨_, rfl, rfl, rfl⟩, rfl, rfl, .inl ⟨_, rfl, rfl, rfl⟩, rfl, rfl, .inl ⟨_, rfl, rfl, rfl⟩, rfl, rfl, .inl ⟨_, rfl, rfl, rfl⟩, rfl, rfl, .inl ⟨_, rfl, rfl, rfl⟩, rfl, rfl, .inl ⟨_, rfl, rfl, rfl⟩, rfl, rfl, .inl ⟨_, rfl, rfl, rfl⟩, rfl, trivial⟩ rfl rfl) rfl) ?_
  obtain ⟨r2, h3, H⟩ := bnd H
  refine seq_run2 (stp_imp (k_gatemake_Stream_Pick s1 [0, 10, 49, 50, 60, 99, 100, 101, 149, 150, 200, 300, 1000, (-1), 345686400000] r2 h3) rfl ⟨.inl rfl, trivial⟩ rfl) rfl ?_
  refine seq_run0 (stp_assign (.dat _) rfl) ?_
  refine awp_ret ?_
  cases H
  exact ⟨trivial, ⟨.inl rfl, trivial⟩, rfl⟩
theorem k_kit_IsKey (s1 : Bs) (r : (Bool)) (H : m_kit_IsKey s1 = some r) : Fn Try.prog 54 [vstr s1] (resOf [vbool r]) := by
  refine ⟨by kernel_rfl, pure_of (us := [vbool r]) Try.func54 rfl rfl rfl rfl fun X hN => ?_⟩
  unfold m_kit_IsKey at H
  refine awp_seq ?_
  refine awp_plain hN rfl ?_
  refine seq_run0 (stp_assign (.dat _) rfl) ?_
  refine awp_seq ?_
  refine awp_seq ?_
  refine awp_plain hN rfl ?_
  refine seq_run0 (stp_assign (.dat _) rfl) ?_
  refine awp_block ?_
  obtain ⟨h4, H⟩ := gif H
  refine awp_forL (fun (i2 : Nat) (s : Unit) => [(0, .dat (vstr s1)), (3, .dat (vint (i2 : Int)))]) (fun (i2 : Nat) (s : Unit) => []) () H ⟨rfl, rfl, trivial⟩ trivial (fun _ _ => rfl) ?_ ?_
  · rintro ⟨⟩ H
    replace H : kit_IsKey_E1 s1 = some r := H
    unfold kit_IsKey_E1 at H
    refine awp_seq ?_
    refine awp_seq ?_
    refine awp_plain hN rfl ?_
    refine seq_run0 (stp_move (.dat _) rfl) ?_
    refine seq_run0 (stp_move (.dat _) rfl) ?_
    refine seq_run0 (stp_len_str tyU9 rfl) ?_
    refine seq_run0 (stp_lss rfl rfl) ?_
    refine awp_cond _ rfl (fun h => (lt_t h).elim) (fun h => ?_)
    refine awp_exit ?_
    refine awp_seq ?_
    refine awp_plain hN rfl ?_
    refine seq_run0 (stp_move (.dat _) rfl) ?_
    refine seq_run0 (stp_sneq rfl rfl) ?_
    refine seq_run0 (stp_move (.dat _) rfl) ?_
    refine seq_aT rfl rfl (fun hc => stp_move (.dat _) rfl) ?_
    refine seq_aT rfl rfl (fun hc => stp_len_str tyU9 (cnd (c := (decide (s1 ≠ []))) hc)) ?_
    refine seq_aT rfl rfl (fun hc => stp_leq (cnd (c := (decide (s1 ≠ []))) hc) rfl) ?_
    refine seq_run0 (stp_pick_and rfl (fun hb => (cnd (c := (decide (s1 ≠ []))) hb)) rfl) ?_
    refine seq_run0 (stp_assign (.dat _) rfl) ?_
    refine awp_ret ?_
    cases H
    exact ⟨trivial, .inl rfl, trivial⟩
  · rintro i2 x5 ⟨⟩ q3 h6 h7 H hq3
    replace H : kit_IsKey_L1 i2 x5 = some q3 := H
    unfold kit_IsKey_L1 at H
    refine awp_seq ?_
    refine awp_seq ?_
    refine awp_plain hN rfl ?_
    refine seq_run0 (stp_move (.dat _) rfl) ?_
    refine seq_run0 (stp_move (.dat _) rfl) ?_
    refine seq_run0 (stp_len_str tyU9 rfl) ?_
    refine seq_run0 (stp_lss rfl rfl) ?_
    refine awp_cond _ rfl (fun h => ?_) (fun h => (lt_f h6 h).elim)
    refine awp_skip ?_
    refine awp_seq ?_
    refine awp_block ?_
    refine awp_seq ?_
    refine awp_plain hN rfl ?_
    refine seq_run0 (stp_move (.dat _) rfl) ?_
    refine seq_run0 (stp_move (.dat _) rfl) ?_
    refine seq_run0 (t_byte tyU9 rfl rfl h7) ?_
    refine seq_run0 (stp_assign (.dat _) rfl) ?_
    refine awp_seq ?_
    refine awp_plain hN rfl ?_
    refine seq_run0 (stp_move (.dat _) rfl) ?_
    refine seq_run0 (stp_geq rfl rfl) ?_
    refine seq_run0 (stp_move (.dat _) rfl) ?_
    refine seq_aT rfl rfl (fun hc => stp_move (.dat _) rfl) ?_
    refine seq_aT rfl rfl (fun hc => stp_leq (cnd (c := (decide (97 ≤ (x5.toNat : Int)))) hc) rfl) ?_
    refine seq_run0 (stp_pick_and rfl (fun hb => (cnd (c := (decide (97 ≤ (x5.toNat : Int)))) hb)) rfl) ?_
    refine seq_run0 (stp_move (.dat _) rfl) ?_
    refine seq_aF rfl rfl (fun hc => stp_move (.dat _) rfl) ?_
    refine seq_aF rfl rfl (fun hc => stp_gtr (cnd (c := (!((decide (97 ≤ (x5.toNat : Int))) && (decide ((x5.toNat : Int) ≤ 122))))) hc) rfl) ?_
    refine seq_aF rfl rfl (fun hc => stp_move (.dat _) (cnd (c := (!((decide (97 ≤ (x5.toNat : Int))) && (decide ((x5.toNat : Int) ≤ 122))))) hc)) ?_
    refine seq_bT rfl rfl (fun hc => stp_move (.dat _) rfl) ?_
    refine seq_bT rfl rfl (fun hc => stp_geq (cnd (c := ((!((decide (97 ≤ (x5.toNat : Int))) && (decide ((x5.toNat : Int) ≤ 122)))) && (decide (0 < (i2 : Int))))) hc) rfl) ?_
    refine seq_bT rfl rfl (fun hc => stp_move (.dat _) (cnd (c := ((!((decide (97 ≤ (x5.toNat : Int))) && (decide ((x5.toNat : Int) ≤ 122)))) && (decide (0 < (i2 : Int))))) hc)) ?_
    refine seq_bT rfl rfl (fun hc => stp_move (.dat _) rfl) ?_
    refine seq_bT rfl rfl (fun hc => stp_leq (cnd (c := (((!((decide (97 ≤ (x5.toNat : Int))) && (decide ((x5.toNat : Int) ≤ 122)))) && (decide (0 < (i2 : Int)))) && (decide (48 ≤ (x5.toNat : Int))))) hc) rfl) ?_
    refine seq_bT rfl rfl (fun hc => stp_pick_and (cnd (c := ((!((decide (97 ≤ (x5.toNat : Int))) && (decide ((x5.toNat : Int) ≤ 122)))) && (decide (0 < (i2 : Int))))) hc) (fun hb => (cnd (c := (((!((decide (97 ≤ (x5.toNat : Int))) && (decide ((x5.toNat : Int) ≤ 122)))) && (decide (0 < (i2 : Int)))) && (decide (48 ≤ (x5.toNat : Int))))) (andI hc hb))) rfl) ?_
    refine seq_bT rfl rfl (fun hc => stp_move (.dat _) (cnd (c := ((!((decide (97 ≤ (x5.toNat : Int))) && (decide ((x5.toNat : Int) ≤ 122)))) && (decide (0 < (i2 : Int))))) hc)) ?_
    refine seq_bF rfl rfl (fun hc => stp_move (.dat _) rfl) ?_
    refine seq_bF rfl rfl (fun hc => stp_eql (cnd (c := (((!((decide (97 ≤ (x5.toNat : Int))) && (decide ((x5.toNat : Int) ≤ 122)))) && (decide (0 < (i2 : Int)))) && !((decide (48 ≤ (x5.toNat : Int))) && (decide ((x5.toNat : Int) ≤ 57))))) hc) rfl) ?_
    refine seq_bT rfl rfl (fun hc => stp_pick_or (cnd (c := ((!((decide (97 ≤ (x5.toNat : Int))) && (decide ((x5.toNat : Int) ≤ 122)))) && (decide (0 < (i2 : Int))))) hc) rfl (fun hb => (cnd (c := (((!((decide (97 ≤ (x5.toNat : Int))) && (decide ((x5.toNat : Int) ≤ 122)))) && (decide (0 < (i2 : Int)))) && !((decide (48 ≤ (x5.toNat : Int))) && (decide ((x5.toNat : Int) ≤ 57))))) (andI hc (notI hb))))) ?_
    refine seq_bT rfl rfl (fun hc => stp_move (.dat _) (cnd (c := ((!((decide (97 ≤ (x5.toNat : Int))) && (decide ((x5.toNat : Int) ≤ 122)))) && (decide (0 < (i2 : Int))))) hc)) ?_
    refine seq_bF rfl rfl (fun hc => stp_move (.dat _) rfl) ?_
    refine seq_bF rfl rfl (fun hc => stp_eql (cnd (c := (((!((decide (97 ≤ (x5.toNat : Int))) && (decide ((x5.toNat : Int) ≤ 122)))) && (decide (0 < (i2 : Int)))) && !(((decide (48 ≤ (x5.toNat : Int))) && (decide ((x5.toNat : Int) ≤ 57))) || (decide ((x5.toNat : Int) = 45))))) hc) rfl) ?_
    refine seq_bT rfl rfl (fun hc => stp_pick_or (cnd (c := ((!((decide (97 ≤ (x5.toNat : Int))) && (decide ((x5.toNat : Int) ≤ 122)))) && (decide (0 < (i2 : Int))))) hc) rfl (fun hb => (cnd (c := (((!((decide (97 ≤ (x5.toNat : Int))) && (decide ((x5.toNat : Int) ≤ 122)))) && (decide (0 < (i2 : Int)))) && !(((decide (48 ≤ (x5.toNat : Int))) && (decide ((x5.toNat : Int) ≤ 57))) || (decide ((x5.toNat : Int) = 45))))) (andI hc (notI hb))))) ?_
    refine seq_aF rfl rfl (fun hc => stp_pick_and (cnd (c := (!((decide (97 ≤ (x5.toNat : Int))) && (decide ((x5.toNat : Int) ≤ 122))))) hc) (fun hb => (cnd (c := ((!((decide (97 ≤ (x5.toNat : Int))) && (decide ((x5.toNat : Int) ≤ 122)))) && (decide (0 < (i2 : Int))))) (andI hc hb))) rfl) ?_
    refine seq_run0 (stp_pick_or rfl rfl (fun hb => (cnd (c := (!((decide (97 ≤ (x5.toNat : Int))) && (decide ((x5.toNat : Int) ≤ 122))))) (notI hb)))) ?_
    refine seq_run0 (stp_not rfl) ?_
    refine awp_cond _ rfl (fun h8 => ?_) (fun h8 => ?_)
    · replace H := ift h8 H
      refine awp_seq ?_
      refine awp_plain hN rfl ?_
      refine seq_run0 (stp_assign (.dat _) rfl) ?_
      refine awp_ret ?_
      replace H := retl H hq3
      cases H
      exact ⟨trivial, .inl rfl, trivial⟩
    · replace H := iff_ h8 H
      refine awp_skip ?_
      refine awp_plain hN rfl ?_
      refine seq_run0 (stp_move (.dat _) rfl) ?_
      refine seq_run0 (stp_add rfl rfl (by omega)) ?_
      refine seq_run0 (stp_assign (.dat _) rfl) ?_
      exact ⟨_, backl H, ⟨rfl, rfl, trivial⟩, trivial⟩
theorem k_slices_IndexFunc_L_api_Signer_api_Signer_ (s1 : (List S_api_Signer)) (p1 : S_api_Signer → Option (Bool)) (fv1 : Nat) (us1 : List V) (hp1 : ∀ a0 r, p1 a0 = some r → Fn Try.prog fv1 ([vagg (C_api_Signer a0)] ++ us1) (resOf [vbool r])) (r : (Int)) (H : m_slices_IndexFunc_L_api_Signer_api_Signer_ s1 p1 = some r) : Fn Try.prog 59 [vlst (List.map C_api_Signer s1), vfn fv1 us1] (resOf [vint r]) := by
  refine ⟨by kernel_rfl, pure_of (us := [vint r]) Try.func59 rfl rfl rfl rfl fun X hN => ?_⟩
  unfold m_slices_IndexFunc_L_api_Signer_api_Signer_ at H
  refine awp_seq ?_
  refine awp_plain hN rfl ?_
  refine seq_run0 (stp_assign (.dat _) rfl) ?_
  refine awp_seq ?_
  refine awp_seq ?_
  refine awp_plain hN rfl ?_
  refine seq_run0 (stp_move (.dat _) rfl) ?_
  refine seq_run0 (t_len tyU26 rfl) ?_
  refine seq_run0 (stp_move (.dat _) rfl) ?_
  refine awp_block ?_
  obtain ⟨h4, H⟩ := gif H
  refine awp_forL (fun (k2 : Nat) (s : Unit) => [(0, .dat (vlst (List.map C_api_Signer s1))), (1, .dat (vfn fv1 us1)), (7, .dat (vint (s1.length : Int))), (8, .dat (vint (k2 : Int)))]) (fun (k2 : Nat) (s : Unit) => []) () H ⟨rfl, rfl, rfl, rfl, trivial⟩ trivial (fun _ _ => rfl) ?_ ?_
  · rintro ⟨⟩ H
    replace H : slices_IndexFunc_L_api_Signer_api_Signer__E1 = some r := H
    unfold slices_IndexFunc_L_api_Signer_api_Signer__E1 at H
    refine awp_seq ?_
    refine awp_plain hN rfl ?_
    refine seq_run0 (stp_lss rfl rfl) ?_
    refine awp_seq ?_
    refine awp_cond _ rfl (fun h => (lt_t h).elim) (fun h => ?_)
    refine awp_exit ?_
    refine awp_seq ?_
    refine awp_plain hN rfl ?_
    refine seq_run0 (stp_assign (.dat _) rfl) ?_
    refine awp_ret ?_
    cases H
    exact ⟨trivial, .inl rfl, trivial⟩
  · rintro k2 x5 ⟨⟩ q3 h6 h7 H hq3
    replace H : slices_IndexFunc_L_api_Signer_api_Signer__L1 p1 k2 x5 = some q3 := H
    unfold slices_IndexFunc_L_api_Signer_api_Signer__L1 at H
    refine awp_seq ?_
    refine awp_plain hN rfl ?_
    refine seq_run0 (stp_lss rfl rfl) ?_
    refine awp_seq ?_
    refine awp_cond _ rfl (fun h => ?_) (fun h => (lt_f h6 h).elim)
    refine awp_skip ?_
    refine awp_seq ?_
    refine awp_block ?_
    refine awp_seq ?_
    refine awp_plain hN rfl ?_
    refine seq_run0 (stp_move (.dat _) rfl) ?_
    refine seq_run0 (stp_assign (.dat _) rfl) ?_
    refine awp_seq ?_
    refine awp_plain hN rfl ?_
    refine seq_run0 (stp_move (.dat _) rfl) ?_
    refine seq_run0 (stp_move (.dat _) rfl) ?_
    refine seq_run0 (stp_move (.dat _) rfl) ?_
    refine seq_run0 (t_idx tyE26 (fun _ => rfl) rfl rfl h7) ?_
    refine seq_run0 (stp_loadEA tyS38 rfl (map_at h7) rfl) ?_
    obtain ⟨r8, h9, H⟩ := bnd H
    refine seq_run0 (stp_callv (hp1 x5 r8 h9) rfl ⟨.inl rfl, trivial⟩) ?_
    refine awp_cond _ rfl (fun h10 => ?_) (fun h10 => ?_)
    · replace H := ift h10 H
      refine awp_seq ?_
      refine awp_plain hN rfl ?_
      refine seq_run0 (stp_move (.dat _) rfl) ?_
      refine seq_run0 (stp_assign (.dat _) rfl) ?_
      refine awp_ret ?_
      replace H := retl H hq3
      cases H
      exact ⟨trivial, .inl rfl, trivial⟩
    · replace H := iff_ h10 H
      refine awp_skip ?_
      refine awp_plain hN rfl ?_
      refine seq_run0 (stp_add rfl rfl (by omega)) ?_
      refine seq_run0 (stp_move (.dat _) rfl) ?_
      exact ⟨_, backl H, ⟨rfl, rfl, rfl, rfl, trivial⟩, trivial⟩
theorem k_slices_ContainsFunc_L_api_Signer_api_Signer_ (s1 : (List S_api_Signer)) (p1 : S_api_Signer → Option (Bool)) (fv1 : Nat) (us1 : List V) (hp1 : ∀ a0 r, p1 a0 = some r → Fn Try.prog fv1 ([vagg (C_api_Signer a0)] ++ us1) (resOf [vbool r])) (r : (Bool)) (H : m_slices_ContainsFunc_L_api_Signer_api_Signer_ s1 p1 = some r) : Fn Try.prog 32 [vlst (List.map C_api_Signer s1), vfn fv1 us1] (resOf [vbool r]) := by
  refine ⟨by kernel_rfl, pure_of (us := [vbool r]) Try.func32 rfl rfl rfl rfl fun X hN => ?_⟩
  unfold m_slices_ContainsFunc_L_api_Signer_api_Signer_ at H
  refine awp_seq ?_
  refine awp_plain hN rfl ?_
  refine seq_run0 (stp_assign (.dat _) rfl) ?_
  refine awp_seq ?_
  refine awp_plain hN rfl ?_
  refine seq_run0 (stp_move (.dat _) rfl) ?_
  refine seq_run0 (stp_move (.dat _) rfl) ?_
  obtain ⟨r2, h3, H⟩ := bnd H
  refine seq_run0 (stp_call (k_slices_IndexFunc_L_api_Signer_api_Signer_ s1 p1 fv1 us1 hp1 r2 h3) ⟨.inl rfl, .inl rfl, trivial⟩) ?_
  refine seq_run0 (stp_geq rfl rfl) ?_
  refine seq_run0 (stp_assign (.dat _) rfl) ?_
  refine awp_ret ?_
  cases H
  exact ⟨trivial, .inl rfl, trivial⟩
theorem k_token_signerFault_1 (o1 : S_api_Signer) (c2 : S_api_Signer) (r : (Bool)) (H : m_token_signerFault_1 o1 c2 = some r) : Fn Try.prog 63 [vagg (C_api_Signer o1), vcell [[vstr c2.Id, vstr c2.Secret, vint c2.From, vint c2.To, vint c2.Until]] 0 0] (resOf [vbool r]) := by
  refine ⟨by kernel_rfl, pure_of (us := [vbool r]) Try.func63 rfl rfl rfl rfl fun X hN => ?_⟩
  unfold m_token_signerFault_1 at H
  refine awp_seq ?_
  refine awp_plain hN rfl ?_
  refine seq_run2 (stp_boxA 1 rfl) rfl ?_
  refine seq_run0 (stp_assign (.dat _) rfl) ?_
  refine awp_seq ?_
  refine awp_plain hN rfl ?_
  refine seq_run0 (stp_fldP tyF38_0 rfl) ?_
  refine seq_run1 (stp_load1 tyS9 rfl rfl) rfl ?_
  refine seq_run0 (stp_fldE tyF38_0 rfl) ?_
  refine seq_run0 (stp_loadE1 tyS9 rfl rfl rfl) ?_
  refine seq_run0 (stp_seql rfl rfl) ?_
  refine seq_run0 (stp_assign (.dat _) rfl) ?_
  refine awp_ret ?_
  cases H
  exact ⟨trivial, .inl rfl, trivial⟩
theorem k_token_secretFault (s1 : Bs) (r : (Int)) (H : m_token_secretFault s1 = some r) : Fn Try.prog 56 [vstr s1] (resOf [vint r]) := by
  refine ⟨by kernel_rfl, pure_of (us := [vint r]) Try.func56 rfl rfl rfl rfl fun X hN => ?_⟩
  unfold m_token_secretFault at H
  refine awp_seq ?_
  refine awp_plain hN rfl ?_
  refine seq_run0 (stp_assign (.dat _) rfl) ?_
  refine awp_seq ?_
  refine awp_seq ?_
  refine awp_plain hN rfl ?_
  refine seq_run0 (stp_move (.dat _) rfl) ?_
  refine seq_run0 (stp_len_str tyU9 rfl) ?_
  refine seq_run0 (stp_move (.dat _) rfl) ?_
  refine awp_block ?_
  obtain ⟨h4, H⟩ := gif H
  refine awp_forL (fun (k2 : Nat) (s : Unit) => [(0, .dat (vstr s1)), (5, .dat (vint (s1.length : Int))), (6, .dat (vint (k2 : Int)))]) (fun (k2 : Nat) (s : Unit) => []) () H ⟨rfl, rfl, rfl, trivial⟩ trivial (fun _ _ => rfl) ?_ ?_
  · rintro ⟨⟩ H
    replace H : token_secretFault_E1 s1 = some r := H
    unfold token_secretFault_E1 at H
    refine awp_seq ?_
    refine awp_plain hN rfl ?_
    refine seq_run0 (stp_lss rfl rfl) ?_
    refine awp_seq ?_
    refine awp_cond _ rfl (fun h => (lt_t h).elim) (fun h => ?_)
    refine awp_exit ?_
    refine awp_seq ?_
    refine awp_seq ?_
    refine awp_plain hN rfl ?_
    refine seq_run0 (stp_move (.dat _) rfl) ?_
    refine seq_run0 (stp_seql rfl rfl) ?_
    refine awp_cond _ rfl (fun h6 => ?_) (fun h6 => ?_)
    · replace H := ift h6 H
      refine awp_seq ?_
      refine awp_plain hN rfl ?_
      refine seq_run0 (stp_assign (.dat _) rfl) ?_
      refine awp_ret ?_
      cases H
      exact ⟨trivial, .inl rfl, trivial⟩
    · replace H := iff_ h6 H
      refine awp_skip ?_
      refine awp_seq ?_
      refine awp_seq ?_
      refine awp_plain hN rfl ?_
      refine seq_run0 (stp_move (.dat _) rfl) ?_
      refine seq_run0 (stp_len_str tyU9 rfl) ?_
      refine seq_run0 (stp_gtr rfl rfl) ?_
      refine awp_cond _ rfl (fun h7 => ?_) (fun h7 => ?_)
      · replace H := ift h7 H
        refine awp_seq ?_
        refine awp_plain hN rfl ?_
        refine seq_run0 (stp_assign (.dat _) rfl) ?_
        refine awp_ret ?_
        cases H
        exact ⟨trivial, .inl rfl, trivial⟩
      · replace H := iff_ h7 H
        refine awp_skip ?_
        refine awp_seq ?_
        refine awp_plain hN rfl ?_
        refine seq_run0 (stp_assign (.dat _) rfl) ?_
        refine awp_ret ?_
        cases H
        exact ⟨trivial, .inl rfl, trivial⟩
  · rintro k2 x5 ⟨⟩ q3 h8 h9 H hq3
    replace H : token_secretFault_L1 k2 x5 = some q3 := H
    unfold token_secretFault_L1 at H
    refine awp_seq ?_
    refine awp_plain hN rfl ?_
    refine seq_run0 (stp_lss rfl rfl) ?_
    refine awp_seq ?_
    refine awp_cond _ rfl (fun h => ?_) (fun h => (lt_f h8 h).elim)
    refine awp_skip ?_
    refine awp_seq ?_
    refine awp_block ?_
    refine awp_seq ?_
    refine awp_plain hN rfl ?_
    refine seq_run0 (stp_move (.dat _) rfl) ?_
    refine seq_run0 (stp_assign (.dat _) rfl) ?_
    refine awp_joinE (ι := Bool) (fun i => [(0, .dat (vstr s1)), (5, .dat (vint (s1.length : Int))), (6, .dat (vint (k2 : Int))), (18, .dat (vbool i))]) (fun i => []) (fun i => token_secretFault_J2 i = some q3) (fun i => rfl) ?_ ?_
    · skip
      refine awp_plain hN rfl ?_
      refine seq_run0 (stp_move (.dat _) rfl) ?_
      refine seq_run0 (stp_move (.dat _) rfl) ?_
      refine seq_run0 (t_byte tyU9 rfl rfl h9) ?_
      refine seq_run0 (stp_lss rfl rfl) ?_
      refine seq_run0 (stp_move (.dat _) rfl) ?_
      refine seq_split (j := 4) rfl rfl (fun h10 => ?_) (fun h10 => ?_) rfl
      · have h11 := un3 h10
        replace H := iff_ h11 H
        refine seq_g0 rfl rfl h10 (stp_move (.dat _) rfl) ?_
        refine seq_g0 rfl rfl h10 (stp_move (.dat _) rfl) ?_
        refine seq_g0 rfl rfl h10 (t_byte tyU9 rfl rfl h9) ?_
        refine seq_g0 rfl rfl h10 (stp_gtr rfl rfl) ?_
        refine seq_run0 (stp_pick_f rfl (bFF h11) rfl) ?_
        exact ⟨decide (126 < (x5.toNat : Int)), H, ⟨rfl, rfl, rfl, rfl, trivial⟩, trivial⟩
      · have h12 := un4 h10
        replace H := ift h12 H
        refine seq_skip rfl rfl h10 ?_
        refine seq_skip rfl rfl h10 ?_
        refine seq_skip rfl rfl h10 ?_
        refine seq_skip rfl rfl h10 ?_
        refine seq_run0 (stp_pick_t rfl (bTT h12) rfl) ?_
        exact ⟨true, H, ⟨rfl, rfl, rfl, rfl, trivial⟩, trivial⟩
    · rintro v13 H
      replace H : token_secretFault_J2 v13 = some q3 := H
      unfold token_secretFault_J2 at H
      refine awp_cond _ rfl (fun h14 => ?_) (fun h14 => ?_)
      · replace H := ift h14 H
        refine awp_seq ?_
        refine awp_plain hN rfl ?_
        refine seq_run0 (stp_assign (.dat _) rfl) ?_
        refine awp_ret ?_
        replace H := retl H hq3
        cases H
        exact ⟨trivial, .inl rfl, trivial⟩
      · replace H := iff_ h14 H
        refine awp_skip ?_
        refine awp_plain hN rfl ?_
        refine seq_run0 (stp_add rfl rfl (by omega)) ?_
        refine seq_run0 (stp_move (.dat _) rfl) ?_
        exact ⟨_, backl H, ⟨rfl, rfl, rfl, trivial⟩, trivial⟩
theorem k_kit_Outside (n1 : Int) (low2 : Int) (high3 : Int) (r : (Bool)) (H : m_kit_Outside n1 low2 high3 = some r) : Fn Try.prog 42 [vint n1, vint low2, vint high3] (resOf [vbool r]) := by
  refine ⟨by kernel_rfl, pure_of (us := [vbool r]) Try.func42 rfl rfl rfl rfl fun X hN => ?_⟩
  unfold m_kit_Outside at H
  refine awp_seq ?_
  refine awp_plain hN rfl ?_
  refine seq_run0 (stp_assign (.dat _) rfl) ?_
  refine awp_seq ?_
  refine awp_plain hN rfl ?_
  refine seq_run0 (stp_move (.dat _) rfl) ?_
  refine seq_run0 (stp_move (.dat _) rfl) ?_
  refine seq_run0 (stp_lss rfl rfl) ?_
  refine seq_run0 (stp_move (.dat _) rfl) ?_
  refine seq_aF rfl rfl (fun hc => stp_move (.dat _) rfl) ?_
  refine seq_aF rfl rfl (fun hc => stp_move (.dat _) rfl) ?_
  refine seq_aF rfl rfl (fun hc => stp_gtr (cnd (c := (!(decide (n1 < low2)))) hc) (cnd (c := (!(decide (n1 < low2)))) hc)) ?_
  refine seq_run0 (stp_pick_or rfl rfl (fun hb => (cnd (c := (!(decide (n1 < low2)))) (notI hb)))) ?_
  refine seq_run0 (stp_assign (.dat _) rfl) ?_
  refine awp_ret ?_
  cases H
  exact ⟨trivial, .inl rfl, trivial⟩
theorem k_token_signerFault (l1 : (List S_api_Signer)) (i2 : Int) (r : (Int)) (H : m_token_signerFault l1 i2 = some r) : Fn Try.prog 45 [vlst (List.map C_api_Signer l1), vint i2] (resOf [vint r]) := by
  refine ⟨by kernel_rfl, pure_of (us := [vint r]) Try.func45 rfl rfl rfl rfl fun X hN => ?_⟩
  unfold m_token_signerFault at H
  refine awp_seq ?_
  refine awp_plain hN rfl ?_
  refine seq_run0 (stp_assign (.dat _) rfl) ?_
  refine awp_seq ?_
  refine awp_plain hN rfl ?_
  refine seq_run0 (stp_move (.dat _) rfl) ?_
  refine seq_run0 (stp_move (.dat _) rfl) ?_
  obtain ⟨x3, h4, H⟩ := bnd H
  refine seq_run0 (t_idxI tyE26 (fun _ => rfl) rfl rfl h4) ?_
  refine seq_run0 (stp_loadEA tyS38 rfl (map_at (at_some h4).2) rfl) ?_
  refine seq_run2 (stp_alloc 1 tyZ38 rfl) rfl ?_
  refine seq_run2 (stp_storeW tyS38 rfl rfl rfl rfl) rfl ?_
  refine awp_seq ?_
  refine awp_seq ?_
  refine awp_plain hN rfl ?_
  refine seq_run0 (stp_fldP tyF38_0 rfl) ?_
  refine seq_run1 (stp_load1 tyS9 rfl rfl) rfl ?_
  obtain ⟨r5, h6, H⟩ := bnd H
  refine seq_run0 (stp_call (k_kit_IsKey x3.Id r5 h6) ⟨.inl rfl, trivial⟩) ?_
  refine seq_run0 (stp_not rfl) ?_
  refine awp_cond _ rfl (fun h7 => ?_) (fun h7 => ?_)
  · replace H := ift h7 H
    refine awp_seq ?_
    refine awp_plain hN rfl ?_
    refine seq_run0 (stp_assign (.dat _) rfl) ?_
    refine awp_ret ?_
    cases H
    exact ⟨trivial, .inl rfl, trivial⟩
  · replace H := iff_ h7 H
    refine awp_skip ?_
    refine awp_seq ?_
    refine awp_seq ?_
    refine awp_frzB 1 [vstr x3.Id, vstr x3.Secret, vint x3.From, vint x3.To, vint x3.Until] rfl rfl ?_
    refine awp_plain hN rfl ?_
    refine seq_run0 (stp_move (.dat _) rfl) ?_
    refine seq_run0 (stp_move (.dat _) rfl) ?_
    obtain ⟨l8, h9, H⟩ := bnd H
    refine seq_run0 (t_subL tyE26 (fun _ => rfl) rfl rfl rfl h9) ?_
    refine seq_run0 (stp_mkfn (us := [_]) ⟨rfl, trivial⟩) ?_
    obtain ⟨r10, h11, H⟩ := bnd H
    refine seq_run0 (stp_call (k_slices_ContainsFunc_L_api_Signer_api_Signer_ l8 (fun (a0 : S_api_Signer) => m_token_signerFault_1 a0 x3) 63 [vcell [[vstr x3.Id, vstr x3.Secret, vint x3.From, vint x3.To, vint x3.Until]] 0 0] (fun a0 r h => k_token_signerFault_1 a0 x3 r h) r10 h11) ⟨.inl rfl, .inl rfl, trivial⟩) ?_
    refine awp_cond _ rfl (fun h12 => ?_) (fun h12 => ?_)
    · replace H := ift h12 H
      refine awp_seq ?_
      refine awp_plain hN rfl ?_
      refine seq_run0 (stp_assign (.dat _) rfl) ?_
      refine awp_ret ?_
      cases H
      exact ⟨trivial, .inl rfl, trivial⟩
    · replace H := iff_ h12 H
      refine awp_skip ?_
      refine awp_seq ?_
      refine awp_seq ?_
      refine awp_plain hN rfl ?_
      refine seq_run0 (stp_fldE tyF38_1 rfl) ?_
      refine seq_run0 (stp_loadE1 tyS9 rfl rfl rfl) ?_
      obtain ⟨r13, h14, H⟩ := bnd H
      refine seq_run0 (stp_call (k_token_secretFault x3.Secret r13 h14) ⟨.inl rfl, trivial⟩) ?_
      refine seq_run0 (stp_assign (.dat _) rfl) ?_
      refine awp_seq ?_
      refine awp_plain hN rfl ?_
      refine seq_run0 (stp_move (.dat _) rfl) ?_
      refine seq_run0 (stp_neq rfl rfl) ?_
      refine awp_cond _ rfl (fun h15 => ?_) (fun h15 => ?_)
      · replace H := ift h15 H
        refine awp_seq ?_
        refine awp_plain hN rfl ?_
        refine seq_run0 (stp_move (.dat _) rfl) ?_
        refine seq_run0 (stp_assign (.dat _) rfl) ?_
        refine awp_ret ?_
        cases H
        exact ⟨trivial, .inl rfl, trivial⟩
      · replace H := iff_ h15 H
        refine awp_skip ?_
        refine awp_seq ?_
        refine awp_seq ?_
        refine awp_plain hN rfl ?_
        refine seq_run0 (stp_fldE tyF38_2 rfl) ?_
        refine seq_run0 (stp_loadE1 tyS3 rfl rfl rfl) ?_
        refine seq_run0 (stp_fldE tyF38_3 rfl) ?_
        refine seq_run0 (stp_loadE1 tyS3 rfl rfl rfl) ?_
        obtain ⟨r16, h17, H⟩ := bnd H
        refine seq_run0 (stp_call (k_kit_Outside x3.From 0 x3.To r16 h17) ⟨.inl rfl, .inl rfl, .inl rfl, trivial⟩) ?_
        refine seq_run0 (stp_move (.dat _) rfl) ?_
        refine seq_aF rfl rfl (fun hc => stp_fldE tyF38_3 rfl) ?_
        refine seq_aF rfl rfl (fun hc => stp_loadE1 tyS3 (cnd (c := (!r16)) hc) rfl rfl) ?_
        refine seq_aF rfl rfl (fun hc => stp_fldE tyF38_4 rfl) ?_
        refine seq_aF rfl rfl (fun hc => stp_loadE1 tyS3 (cnd (c := (!r16)) hc) rfl rfl) ?_
        refine seq_aF rfl rfl (fun hc => stp_gtr (cnd (c := (!r16)) hc) (cnd (c := (!r16)) hc)) ?_
        refine seq_run0 (stp_pick_or rfl rfl (fun hb => (cnd (c := (!r16)) (notI hb)))) ?_
        refine seq_run0 (stp_move (.dat _) rfl) ?_
        refine seq_aF rfl rfl (fun hc => stp_fldE tyF38_4 rfl) ?_
        refine seq_aF rfl rfl (fun hc => stp_loadE1 tyS3 (cnd (c := (!(r16 || (decide (x3.Until < x3.To))))) hc) rfl rfl) ?_
        refine seq_aF rfl rfl (fun hc => stp_gtr (cnd (c := (!(r16 || (decide (x3.Until < x3.To))))) hc) rfl) ?_
        refine seq_run0 (stp_pick_or rfl rfl (fun hb => (cnd (c := (!(r16 || (decide (x3.Until < x3.To))))) (notI hb)))) ?_
        refine awp_cond _ rfl (fun h18 => ?_) (fun h18 => ?_)
        · replace H := ift h18 H
          refine awp_seq ?_
          refine awp_plain hN rfl ?_
          refine seq_run0 (stp_assign (.dat _) rfl) ?_
          refine awp_ret ?_
          cases H
          exact ⟨trivial, .inl rfl, trivial⟩
        · replace H := iff_ h18 H
          refine awp_skip ?_
          refine awp_seq ?_
          refine awp_joinE (ι := Bool) (fun i => [(55, .dat (vbool i))]) (fun i => []) (fun i => token_signerFault_J1 i = some r) (fun i => rfl) ?_ ?_
          · skip
            refine awp_draw mixed hN rfl rfl ?_
            refine seq_run0 (stp_move (.dat _) rfl) ?_
            refine seq_run0 (stp_gtr rfl rfl) ?_
            refine seq_run0 (stp_move (.dat _) rfl) ?_
            refine seq_split (j := 2) rfl rfl (fun h19 => ?_) (fun h19 => ?_) rfl
            · have h20 := un1 h19
              replace H := ift h20 H
              refine seq_g0 rfl rfl h19 (stp_fldE tyF38_2 rfl) ?_
              refine seq_g0 rfl rfl h19 (stp_loadE1 tyS3 rfl rfl rfl) ?_
              refine seq_g0 rfl rfl h19 (stp_move (.dat _) rfl) ?_
              refine seq_g0 rfl rfl h19 (stp_move (.dat _) rfl) ?_
              refine seq_g0 rfl rfl h19 (stp_wrap _ rfl rfl (.inr (.inl ⟨rfl, rfl⟩))) ?_
              obtain ⟨x21, h22, H⟩ := bnd H
              refine seq_g0 rfl rfl h19 (t_idxI tyE26 (fun _ => rfl) rfl rfl h22) ?_
              refine seq_g0 rfl rfl h19 (stp_fldE tyF38_2 rfl) ?_
              refine seq_g0 rfl rfl h19 (stp_loadE1 tyS3 rfl (map_at (at_some h22).2) rfl) ?_
              refine seq_g0 rfl rfl h19 (stp_lss rfl rfl) ?_
              refine seq_run0 (stp_pick_t rfl (bTT h20) rfl) ?_
              refine ⟨rfl, ?_⟩
              exact ⟨decide (x3.From < x21.From), H, ⟨rfl, trivial⟩, trivial⟩
            · have h23 := un2 h19
              replace H := iff_ h23 H
              refine seq_skip rfl rfl h19 ?_
              refine seq_skip rfl rfl h19 ?_
              refine seq_skip rfl rfl h19 ?_
              refine seq_skip rfl rfl h19 ?_
              refine seq_skip rfl rfl h19 ?_
              refine seq_skip rfl rfl h19 ?_
              refine seq_skip rfl rfl h19 ?_
              refine seq_skip rfl rfl h19 ?_
              refine seq_skip rfl rfl h19 ?_
              refine seq_run0 (stp_pick_f rfl (bFF h23) rfl) ?_
              refine ⟨rfl, ?_⟩
              exact ⟨false, H, ⟨rfl, trivial⟩, trivial⟩
          · rintro v24 H
            replace H : token_signerFault_J1 v24 = some r := H
            unfold token_signerFault_J1 at H
            refine awp_cond _ rfl (fun h25 => ?_) (fun h25 => ?_)
            · replace H := ift h25 H
              refine awp_seq ?_
              refine awp_plain hN rfl ?_
              refine seq_run0 (stp_assign (.dat _) rfl) ?_
              refine awp_ret ?_
              cases H
              exact ⟨trivial, .inl rfl, trivial⟩
            · replace H := iff_ h25 H
              refine awp_skip ?_
              refine awp_seq ?_
              refine awp_plain hN rfl ?_
              refine seq_run0 (stp_assign (.dat _) rfl) ?_
              refine awp_ret ?_
              cases H
              exact ⟨trivial, .inl rfl, trivial⟩
theorem k_token_CheckSigners (l1 : (List S_api_Signer)) (r : (Int)) (H : m_token_CheckSigners l1 = some r) : Fn Try.prog 19 [vlst (List.map C_api_Signer l1)] (resOf [vint r]) := by
  refine ⟨by kernel_rfl, pure_of (us := [vint r]) Try.func19 rfl rfl rfl rfl fun X hN => ?_⟩
  unfold m_token_CheckSigners at H
  refine awp_seq ?_
  refine awp_plain hN rfl ?_
  refine seq_run0 (stp_assign (.dat _) rfl) ?_
  refine awp_seq ?_
  refine awp_seq ?_
  refine awp_plain hN rfl ?_
  refine seq_run0 (stp_move (.dat _) rfl) ?_
  refine seq_run0 (t_len tyU26 rfl) ?_
  refine seq_run0 (stp_gtr rfl rfl) ?_
  refine awp_cond _ rfl (fun h2 => ?_) (fun h2 => ?_)
  · replace H := ift h2 H
    refine awp_seq ?_
    refine awp_plain hN rfl ?_
    refine seq_run0 (stp_assign (.dat _) rfl) ?_
    refine awp_ret ?_
    cases H
    exact ⟨trivial, .inl rfl, trivial⟩
  · replace H := iff_ h2 H
    refine awp_skip ?_
    refine awp_seq ?_
    refine awp_seq ?_
    refine awp_plain hN rfl ?_
    refine seq_run0 (stp_move (.dat _) rfl) ?_
    refine seq_run0 (t_len tyU26 rfl) ?_
    refine seq_run0 (stp_move (.dat _) rfl) ?_
    refine awp_block ?_
    obtain ⟨h5, H⟩ := gif H
    refine awp_forL (fun (k3 : Nat) (s : Unit) => [(0, .dat (vlst (List.map C_api_Signer l1))), (9, .dat (vint (l1.length : Int))), (10, .dat (vint (k3 : Int)))]) (fun (k3 : Nat) (s : Unit) => []) () H ⟨rfl, rfl, rfl, trivial⟩ trivial (fun _ _ => rfl) ?_ ?_
    · rintro ⟨⟩ H
      replace H : token_CheckSigners_E1 = some r := H
      unfold token_CheckSigners_E1 at H
      refine awp_seq ?_
      refine awp_plain hN rfl ?_
      refine seq_run0 (stp_lss rfl rfl) ?_
      refine awp_seq ?_
      refine awp_cond _ rfl (fun h => (lt_t h).elim) (fun h => ?_)
      refine awp_exit ?_
      refine awp_seq ?_
      refine awp_plain hN rfl ?_
      refine seq_run0 (stp_assign (.dat _) rfl) ?_
      refine awp_ret ?_
      cases H
      exact ⟨trivial, .inl rfl, trivial⟩
    · rintro k3 x6 ⟨⟩ q4 h7 h8 H hq4
      replace H : token_CheckSigners_L1 l1 k3 x6 = some q4 := H
      unfold token_CheckSigners_L1 at H
      refine awp_seq ?_
      refine awp_plain hN rfl ?_
      refine seq_run0 (stp_lss rfl rfl) ?_
      refine awp_seq ?_
      refine awp_cond _ rfl (fun h => ?_) (fun h => (lt_f h7 h).elim)
      refine awp_skip ?_
      refine awp_seq ?_
      refine awp_block ?_
      refine awp_seq ?_
      refine awp_plain hN rfl ?_
      refine seq_run0 (stp_move (.dat _) rfl) ?_
      refine seq_run0 (stp_assign (.dat _) rfl) ?_
      refine awp_seq ?_
      refine awp_plain hN rfl ?_
      refine seq_run0 (stp_move (.dat _) rfl) ?_
      refine seq_run0 (stp_move (.dat _) rfl) ?_
      obtain ⟨r9, h10, H⟩ := bnd H
      refine seq_run0 (stp_call (k_token_signerFault l1 (k3 : Int) r9 h10) ⟨.inl rfl, .inl rfl, trivial⟩) ?_
      refine seq_run0 (stp_assign (.dat _) rfl) ?_
      refine awp_seq ?_
      refine awp_plain hN rfl ?_
      refine seq_run0 (stp_move (.dat _) rfl) ?_
      refine seq_run0 (stp_neq rfl rfl) ?_
      refine awp_cond _ rfl (fun h11 => ?_) (fun h11 => ?_)
      · replace H := ift h11 H
        refine awp_seq ?_
        refine awp_plain hN rfl ?_
        refine seq_run0 (stp_move (.dat _) rfl) ?_
        refine seq_run0 (stp_assign (.dat _) rfl) ?_
        refine awp_ret ?_
        replace H := retl H hq4
        cases H
        exact ⟨trivial, .inl rfl, trivial⟩
      · replace H := iff_ h11 H
        refine awp_skip ?_
        refine awp_plain hN rfl ?_
        refine seq_run0 (stp_add rfl rfl (by omega)) ?_
        refine seq_run0 (stp_move (.dat _) rfl) ?_
        exact ⟨_, backl H, ⟨rfl, rfl, rfl, trivial⟩, trivial⟩
theorem k_kit_IsMoment (n1 : Int) (r : (Bool)) (H : m_kit_IsMoment n1 = some r) : Fn Try.prog 57 [vint n1] (resOf [vbool r]) := by
  refine ⟨by kernel_rfl, pure_of (us := [vbool r]) Try.func57 rfl rfl rfl rfl fun X hN => ?_⟩
  unfold m_kit_IsMoment at H
  refine awp_seq ?_
  refine awp_plain hN rfl ?_
  refine seq_run0 (stp_assign (.dat _) rfl) ?_
  refine awp_seq ?_
  refine awp_plain hN rfl ?_
  refine seq_run0 (stp_move (.dat _) rfl) ?_
  refine seq_run0 (stp_geq rfl rfl) ?_
  refine seq_run0 (stp_move (.dat _) rfl) ?_
  refine seq_aT rfl rfl (fun hc => stp_move (.dat _) rfl) ?_
  refine seq_aT rfl rfl (fun hc => stp_lss (cnd (c := (decide (0 ≤ n1))) hc) rfl) ?_
  refine seq_run0 (stp_pick_and rfl (fun hb => (cnd (c := (decide (0 ≤ n1))) hb)) rfl) ?_
  refine seq_run0 (stp_assign (.dat _) rfl) ?_
  refine awp_ret ?_
  cases H
  exact ⟨trivial, .inl rfl, trivial⟩
theorem k_token_momentFault (v1 : Int) (r : (Int)) (H : m_token_momentFault v1 = some r) : Fn Try.prog 40 [vint v1] (resOf [vint r]) := by
  refine ⟨by kernel_rfl, pure_of (us := [vint r]) Try.func40 rfl rfl rfl rfl fun X hN => ?_⟩
  unfold m_token_momentFault at H
  refine awp_seq ?_
  refine awp_plain hN rfl ?_
  refine seq_run0 (stp_assign (.dat _) rfl) ?_
  refine awp_seq ?_
  refine awp_seq ?_
  refine awp_plain hN rfl ?_
  refine seq_run0 (stp_move (.dat _) rfl) ?_
  obtain ⟨r2, h3, H⟩ := bnd H
  refine seq_run0 (stp_call (k_kit_IsMoment v1 r2 h3) ⟨.inl rfl, trivial⟩) ?_
  refine seq_run0 (stp_not rfl) ?_
  refine awp_cond _ rfl (fun h4 => ?_) (fun h4 => ?_)
  · replace H := ift h4 H
    refine awp_seq ?_
    refine awp_plain hN rfl ?_
    refine seq_run0 (stp_assign (.dat _) rfl) ?_
    refine awp_ret ?_
    cases H
    exact ⟨trivial, .inl rfl, trivial⟩
  · replace H := iff_ h4 H
    refine awp_skip ?_
    refine awp_seq ?_
    refine awp_plain hN rfl ?_
    refine seq_run0 (stp_assign (.dat _) rfl) ?_
    refine awp_ret ?_
    cases H
    exact ⟨trivial, .inl rfl, trivial⟩
theorem k_slices_Backward_L_api_Signer_api_Signer_ (l : List S_api_Signer) : Fn Try.prog 46 [vlst (List.map C_api_Signer l)] (resOf [vfn 64 [vcell [[vlst (List.map C_api_Signer l)]] 0 0]]) := by
  refine ⟨by kernel_rfl, pure_of (us := [vfn 64 [vcell [[vlst (List.map C_api_Signer l)]] 0 0]]) Try.func46 rfl rfl rfl rfl fun X hN => ?_⟩
  refine awp_seq ?_
  refine awp_plain hN rfl ?_
  refine seq_run2 (stp_box1 1 rfl rfl) rfl ?_
  refine seq_run0 (stp_assign (.dat _) rfl) ?_
  refine awp_seq ?_
  refine awp_frzB 1 [vlst (List.map C_api_Signer l)] rfl rfl ?_
  refine awp_plain hN rfl ?_
  refine seq_run0 (stp_mkfn (us := [_]) ⟨rfl, trivial⟩) ?_
  refine seq_run0 (stp_assign (.dat _) rfl) ?_
  refine awp_ret ?_
  exact ⟨trivial, .inl rfl, trivial⟩
theorem it_slices_Backward_L_api_Signer_api_Signer_ : BackIt Try.prog 64 5 := by
  intro vals M l cap J Jx W hn hvn hk hc hY h0
  have hnt : Try.f64.ntmps = 19 := rfl
  refine callsIn_of_wp Try.func64 rfl trivial ?_ rfl
  rw [hnt]
  obtain ⟨vc, hvc⟩ : ∃ vc : V, vc = vand (vcell [[vlst (vals.map fun c => c.map vval)]] 0 0) cap := ⟨_, rfl⟩
  have hwk : Wk vc (vcell [[vlst (vals.map fun c => c.map vval)]] 0 0) := by rw [hvc]; exact wk_and _ _
  have hvm : ∀ W', (vcell [[vlst (vals.map fun c => c.map vval)]] 0 0).p W' M cap → vc.p W' M cap := fun W' h => by rw [hvc]; exact ⟨rfl, h⟩
  have hvo : ∀ W' M' v, vc.p W' M' v → v = cap := fun W' M' v h => by rw [hvc] at h; exact h.1
  obtain ⟨hM, hcp⟩ := hc _ _ h0
  refine wpIn_seq (wpIn_mono (run_pureA (N := 19) hM ?hN ?hD [(0, vval (yv l)), (1, vc)] ?hr (Q := fun e f => e = .normal ∧ f 0 = .dat (vval (yv l)) ∧ f 1 = .dat vc ∧ f 3 = .dat (vint ((vals.length : Int) - 1))) fun X hN => ?_) ?_)
  case hN => simp
  case hD => rfl
  case hr => exact ⟨by simp [yv, vval], by simpa using hvm _ hcp, trivial⟩
  · refine awp_plain hN rfl ?_
    refine seq_run0 (stp_loadE1W tyS26 rfl hwk rfl rfl) ?_
    refine seq_run0 (t_len (C := fun c : List Value => c.map vval) tyU26 rfl) ?_
    refine seq_run0 (stp_sub rfl rfl (by omega)) ?_
    refine seq_run0 (stp_assign (.dat _) rfl) ?_
    exact ⟨rfl, rfl, rfl, rfl⟩
  rintro e a W1 ⟨hk1, hN, hD, f, own, g, M', hfr, rfl, e0, e1, e3⟩
  have t0 : a.tmps.getD 0 undef = yv l := by have := hfr 0; rw [e0] at this; exact this
  have t1 : a.tmps.getD 1 undef = cap := by have := hfr 1; rw [e1] at this; exact hvo _ _ _ this
  have t3 : a.tmps.getD 3 undef = .int .i64 ((vals.length : Int) - 1) := by have := hfr 3; rw [e3] at this; exact this
  refine wpIn_block (wpIn_loop_rounds (vals.length + 1) ?_)
  have hJ1 := hk _ _ _ h0 hk1
  clear hk1 hfr e0 e1 e3 hcp hM h0
  suffices key : ∀ m, m ≤ vals.length → ∀ a W, a.tmps.size = 19 → a.defers = [] → a.tmps.getD 0 undef = yv l → a.tmps.getD 1 undef = cap → a.tmps.getD 3 undef = .int .i64 ((m : Int) - 1) → J m W → Code.roundsIn Fence.wide 0 Try.prog _ _ (m + 1) a W from key _ (Nat.le_refl _) a W1 hN hD t0 t1 t3 hJ1
  clear t0 t1 t3 hN hD hJ1
  intro m
  induction m with
  | zero =>
    intro _ a W hN hD t0 t1 t3 hJ
    obtain ⟨hM, hcp⟩ := hc _ _ hJ
    rw [roundsIn_succ]
    refine wpIn_seq (wpIn_seq (wpIn_mono (run_pureA (N := 19) hM hN hD [(3, vint (-1))] ⟨by rw [t3]; rfl, trivial⟩ (Q := fun e f => e = .normal ∧ f 8 = .dat (vbool (decide ((0 : Int) ≤ -1)))) fun X hN => ?_) ?_))
    · refine awp_plain hN rfl ?_
      refine seq_run0 (stp_move (.dat _) rfl) ?_
      refine seq_run0 (stp_geq rfl rfl) ?_
      exact ⟨rfl, rfl⟩
    rintro e a' W' ⟨hk1, hN', hD', f, own, g, M', hfr, rfl, e8⟩
    have t8 : a'.tmps.getD 8 undef = .bool false := by have := hfr 8; rw [e8] at this; exact this
    exact wpIn_cond_false t8 (wpIn_exit ⟨hD', _, results_none rfl _ _ _, ⟨_, rfl⟩, .inl (hk _ _ _ hJ hk1)⟩)
  | succ m ih =>
    intro hm a W hN hD t0 t1 t3 hJ
    obtain ⟨hM, hcp⟩ := hc _ _ hJ
    have hm3 : (((m + 1 : Nat) : Int) - 1) = (m : Int) := by omega
    rw [hm3] at t3
    rw [roundsIn_succ]
    refine wpIn_seq (wpIn_seq (wpIn_mono (run_pureA (N := 19) hM hN hD [(0, vval (yv l)), (1, vc), (3, vint (m : Int))] ⟨t0, by rw [t1]; exact hvm _ hcp, by rw [t3]; rfl, trivial⟩ (Q := fun e f => e = .normal ∧ f 0 = .dat (vval (yv l)) ∧ f 1 = .dat vc ∧ f 3 = .dat (vint (m : Int)) ∧ f 8 = .dat (vbool (decide ((0 : Int) ≤ (m : Int))))) fun X hN => ?_) ?_))
    · refine awp_plain hN rfl ?_
      refine seq_run0 (stp_move (.dat _) rfl) ?_
      refine seq_run0 (stp_geq rfl rfl) ?_
      exact ⟨rfl, rfl, rfl, rfl, rfl⟩
    rintro e a1 W1 ⟨hk1, hN1, hD1, f, own, g, M', hfr, rfl, e0, e1, e3, e8⟩
    have u0 : a1.tmps.getD 0 undef = yv l := by have := hfr 0; rw [e0] at this; exact this
    have u1 : a1.tmps.getD 1 undef = cap := by have := hfr 1; rw [e1] at this; exact hvo _ _ _ this
    have u3 : a1.tmps.getD 3 undef = .int .i64 (m : Int) := by have := hfr 3; rw [e3] at this; exact this
    have u8 : a1.tmps.getD 8 undef = .bool true := by
      have := hfr 8; rw [e8, decide_eq_true (by omega)] at this; exact this
    refine wpIn_cond_true u8 (wpIn_skip ?_)
    have hJ1 := hk _ _ _ hJ hk1
    clear hfr e0 e1 e3 e8 hk1 hJ hM hcp t0 t1 t3 hN hD
    obtain ⟨hM1, hcp1⟩ := hc _ _ hJ1
    refine wpIn_seq (wpIn_block (wpIn_seq ?_))
    refine wpIn_region ?_
    obtain ⟨X, hX⟩ : ∃ X : Ctx, X = ⟨fun b => M b, W1, [], 19, none, []⟩ := ⟨_, rfl⟩
    have hrel : Rel X (frs (datL [(0, vval (yv l)), (1, vc), (3, vint (m : Int))])) (fun _ => none) ⟨fun _ => none, fun _ _ => none⟩ a1 W1 := by
      subst hX
      have he : Ext M (Mof ⟨fun b => M b, W1, [], 19, none, []⟩ ⟨fun _ => none, fun _ _ => none⟩ (fun _ => none)) W1 W1 := ⟨Nat.le_refl _, fun _ _ _ _ => rfl, fun b _ hb => by
        rcases hb with hb | ⟨id, o, ho, _⟩
        · exact hb
        · cases ho⟩
      refine ⟨Kp.refl _ _, ⟨fun b hb => ⟨hM1.1 b hb, by simp⟩, hM1.2.1, fun b hb => ⟨hM1.2.2 b hb, by simp⟩⟩, hN1, hD1, fun t => rep_at [(0, vval (yv l)), (1, vc), (3, vint (m : Int))] ⟨u0, by rw [u1]; exact vc.keep he (hvm _ hcp1), by rw [u3]; rfl, trivial⟩ t, fun id o ho => (by cases ho), fun id _ o _ b ho => (by cases ho), fun id o b ho => (by cases ho), fun id _ => ⟨rfl, fun _ => rfl⟩, fun id e size es h => (by cases h)⟩
    have hNX : X.N = 19 := by rw [hX]
    have hRX : X.R = none := by rw [hX]
    have hDX : X.D = [] := by rw [hX]
    have hKX : ∀ W', Kp X.S0 X.w0 W' → Kp [] W1 W' := fun W' h => by rw [hX] at h; exact h
    obtain ⟨el, hel⟩ : ∃ el, vals[m]? = some el := ⟨_, List.getElem?_eq_getElem (by omega)⟩
    have hell : (el.map vval).length = 5 := by rw [List.length_map]; exact hvn el (List.mem_of_getElem? hel)
    have helm : (vals.map fun c => c.map vval)[m]? = some (el.map vval) := by rw [List.getElem?_map, hel]; rfl
    have helD : vals.getD m [] = el := by rw [List.getD_eq_getElem?_getD, hel]; rfl
    clear hX
    refine opsR hRX (n := 6 + 2) rfl ?_
    refine seqA_pre (P := Try.prog) (X := X) (by rw [hNX]; rfl) [_, _, _, _, _, _] [_, _] 0 _ _ [] _ a1 W1 rfl hrel ?_
    refine seq_run0 (stp_move (.dat _) rfl) ?_
    refine seq_run0 (stp_move (.dat _) rfl) ?_
    refine seq_run0 (stp_loadE1W tyS26 rfl hwk rfl rfl) ?_
    refine seq_run0 (stp_move (.dat _) rfl) ?_
    refine seq_run0 (stp_idxE (k := m) tyE26 rfl rfl (by rw [List.length_map]; omega) (fun c hc => by
      obtain ⟨c', hc', rfl⟩ := List.mem_map.1 hc
      rw [List.length_map]; exact hvn c' hc')) ?_
    refine seq_run0 (stp_loadEA tyS38 rfl helm hell) ?_
    intro g2 a2 W2 k2
    have v0 : a2.tmps.getD 0 undef = yv l := k2.fr 0
    have v1 : a2.tmps.getD 1 undef = cap := hvo _ _ _ (k2.fr 1)
    have v3 : a2.tmps.getD 3 undef = .int .i64 (m : Int) := k2.fr 3
    have v11 : a2.tmps.getD 11 undef = yv l := k2.fr 11
    have v12 : a2.tmps.getD 12 undef = .int .i64 (m : Int) := k2.fr 12
    have v16 : a2.tmps.getD 16 undef = .agg el.toArray := by
      obtain ⟨lv, h1, h2, h3⟩ : (vagg (el.map vval)).p W2 _ (a2.tmps.getD 16 undef) := k2.fr 16
      rw [h1]
      have : lv = el := by
        apply List.ext_getElem?
        intro j
        rcases Nat.lt_or_ge j el.length with hj | hj
        · obtain ⟨y, p1, p2, _⟩ := h3 j (vval el[j]) (by rw [List.getElem?_map, List.getElem?_eq_getElem hj]; rfl)
          rw [p1, List.getElem?_eq_getElem hj]; exact congrArg some p2
        · rw [List.getElem?_eq_none hj, List.getElem?_eq_none (by rw [List.length_map] at h2; omega)]
      rw [this]
    have hN2 : a2.tmps.size = 19 := k2.n.trans hNX
    have hD2 : a2.defers = [] := k2.df.trans hDX
    have hJ2 := hk _ _ _ hJ1 (hKX _ k2.kp)
    clear k2 hrel
    obtain ⟨fn, tm, asg, bdy, hrun, hR⟩ := hY m W2 (by omega) hJ2
    rw [helD] at hrun
    rw [hRX]
    show wpOpsIn Fence.wide 0 Try.prog _ _ [6, 7] a2 W2
    refine wpOps_yield rfl rfl rfl v11 (by simp [Act.eval, v12, v16]) hrun (hR.mono ?_)
    rintro e W3 (⟨rfl, hJ3⟩ | ⟨rfl, hJ3⟩)
    · obtain ⟨hM3, hcp3⟩ := hc _ _ hJ3
      refine ⟨_, rfl, ?_⟩
      obtain ⟨a3, ha3⟩ : ∃ a3 : Act, a3 = a2.put (some 17) (.bool true) := ⟨_, rfl⟩
      have hN3 : a3.tmps.size = 19 := by rw [ha3]; simpa [Act.put] using hN2
      have hD3 : a3.defers = [] := by rw [ha3]; exact hD2
      have g3 : ∀ t, a3.tmps.getD t undef = if t = 17 then .bool true else a2.tmps.getD t undef := fun t => by rw [ha3]; exact arr_put hN2 (by decide) t
      show wpOpsIn Fence.wide 0 Try.prog _ _ (List.range' 7 1) (a2.put (some 17) (.bool true)) W3
      rw [← ha3]
      refine opsT (N := 19) (i := 7) (os := [_]) hM3 hN3 hD3 [(0, vval (yv l)), (1, vc), (3, vint (m : Int)), (17, vbool true)] ⟨?_, ?_, ?_, ?_, trivial⟩ (Q' := fun f => f 0 = .dat (vval (yv l)) ∧ f 1 = .dat vc ∧ f 3 = .dat (vint (m : Int)) ∧ f 18 = .dat (vbool (!true))) rfl rfl (fun _ _ => ?_) ?_
      · show _ = _
        rw [g3, if_neg (by decide)]; exact v0
      · rw [g3, if_neg (by decide), v1]; exact hvm _ hcp3
      · show _ = _
        rw [g3, if_neg (by decide)]; exact v3
      · show _ = _
        rw [g3, if_pos rfl]
      · refine seq_run0 (stp_not rfl) ?_
        exact ⟨rfl, rfl, rfl, rfl⟩
      intro a4 W4 hk4 hN4 hD4 f g M' hfr ⟨e0, e1, e3, e18⟩
      have z0 : a4.tmps.getD 0 undef = yv l := by have := hfr 0; rw [e0] at this; exact this
      have z1 : a4.tmps.getD 1 undef = cap := by have := hfr 1; rw [e1] at this; exact hvo _ _ _ this
      have z3 : a4.tmps.getD 3 undef = .int .i64 (m : Int) := by have := hfr 3; rw [e3] at this; exact this
      have z18 : a4.tmps.getD 18 undef = .bool false := by have := hfr 18; rw [e18] at this; exact this
      refine wpIn_cond_false z18 (wpIn_skip ?_)
      have hJ4 := hk _ _ _ hJ3 hk4
      obtain ⟨hM4, hcp4⟩ := hc _ _ hJ4
      refine wpIn_mono (run_pureA (N := 19) hM4 hN4 hD4 [(0, vval (yv l)), (1, vc), (3, vint (m : Int))] ⟨z0, by rw [z1]; exact hvm _ hcp4, by rw [z3]; rfl, trivial⟩ (Q := fun e f => e = .normal ∧ f 0 = .dat (vval (yv l)) ∧ f 1 = .dat vc ∧ f 3 = .dat (vint ((m : Int) - 1))) fun X hN => ?_) ?_
      · refine awp_plain hN rfl ?_
        refine seq_run0 (stp_move (.dat _) rfl) ?_
        refine seq_run0 (stp_sub rfl rfl (by omega)) ?_
        refine seq_run0 (stp_assign (.dat _) rfl) ?_
        exact ⟨rfl, rfl, rfl, rfl⟩
      rintro e a5 W5 ⟨hk5, hN5, hD5, f5, own5, g5, M5, hfr5, rfl, e0, e1, e3⟩
      exact ih (by omega) a5 W5 hN5 hD5 (by have := hfr5 0; rw [e0] at this; exact this) (by have := hfr5 1; rw [e1] at this; exact hvo _ _ _ this) (by have := hfr5 3; rw [e3] at this; exact this) (hk _ _ _ hJ4 hk5)
    · refine ⟨_, rfl, ?_⟩
      obtain ⟨a3, ha3⟩ : ∃ a3 : Act, a3 = a2.put (some 17) (.bool false) := ⟨_, rfl⟩
      show wpOpsIn Fence.wide 0 Try.prog _ _ [7] (a2.put (some 17) (.bool false)) W3
      rw [← ha3]
      have g3 : ∀ t, a3.tmps.getD t undef = if t = 17 then .bool false else a2.tmps.getD t undef := fun t => by rw [ha3]; exact arr_put hN2 (by decide) t
      have hN3 : a3.tmps.size = 19 := by rw [ha3]; simpa [Act.put] using hN2
      have hD3 : a3.defers = [] := by rw [ha3]; exact hD2
      have v17 : a3.tmps.getD 17 undef = .bool false := by rw [g3, if_pos rfl]
      rw [wpOpsIn_cons]
      unfold wpOpIn
      refine ⟨fun _ _ => trivial, ?_⟩
      have hrun : ∀ o : Oper, o.op = .unOp .not 4 (.tmp 17) → (o.semAt Fence.wide.round a3.eval).run Try.prog W3 = .ok (.value (.bool true)) W3 := fun o ho => by
        rw [Oper.semAt_eq Fence.wide.round a3.eval o (fun c hc => by rw [ho] at hc; cases hc)]
        have h1 : a3.eval (.tmp 17) = .bool false := v17
        simp only [execOp, ho, h1, Op.unary]
        rfl
      rw [hrun _ rfl, Oper.uponIn_value]
      have t18 : (a3.put (some 18) (.bool true)).tmps.getD 18 undef = .bool true := by rw [show (a3.put (some 18) (.bool true)).tmps = a3.tmps.setIfInBounds 18 (.bool true) from rfl, arr_put hN3 (by decide), if_pos rfl]
      exact wpIn_cond_true t18 (wpIn_ret ⟨hD3, _, results_none rfl _ _ _, ⟨_, rfl⟩, .inr hJ3⟩)

theorem k_token_signerAt (l1 : (List S_api_Signer)) (v2 : Int) (r : (S_api_Signer × Bool)) (H : m_token_signerAt l1 v2 = some r) : Fn Try.prog 41 [vlst (List.map C_api_Signer l1), vint v2] (resOf [vagg (C_api_Signer r.1), vbool r.2]) := by
  refine ⟨by kernel_rfl, pure_ofF (us := [vagg (C_api_Signer r.1), vbool r.2]) Try.func41 rfl rfl rfl rfl fun X hN hR => ?_⟩
  unfold m_token_signerAt at H
  refine awpf_seq hR ?_
  refine awp_plain hN rfl ?_
  refine seq_run2 (stp_box1 1 rfl rfl) rfl ?_
  refine seq_run2 (stp_alloc 2 tyZ38 rfl) rfl ?_
  refine seq_run2 (stp_alloc 3 tyZ4 rfl) rfl ?_
  refine awpf_range hR ?_
  refine awp_plain hN rfl ?_
  refine seq_run0 (stp_move (.dat _) rfl) ?_
  refine seq_run0 (stp_call (k_slices_Backward_L_api_Signer_api_Signer_ l1) ⟨.inl rfl, trivial⟩) ?_
  refine ⟨rfl, ?_⟩
  obtain ⟨h4, H⟩ := gif H
  refine rangeP (s0 := ()) hR hN [(3, .ptr 1 0), (4, .ptr 2 0), (5, .ptr 3 0), (9, .dat (vfn 64 [vcell [[vlst (List.map C_api_Signer l1)]] 0 0]))] [(1, none, 3, [vint v2]), (2, none, 38, [vstr [], vstr [], vint 0, vint 0, vint 0]), (3, none, 4, [vbool false])] (fun (s : Unit) => [(1, 3, [vint v2]), (2, 38, [vstr [], vstr [], vint 0, vint 0, vint 0]), (3, 4, [vbool false])]) it_slices_Backward_L_api_Signer_api_Signer_ (fun _ => rfl) (enters_of Try.func64 (by kernel_rfl) rfl) rfl h4 H ⟨rfl, rfl, rfl, rfl, trivial⟩ ⟨rfl, rfl, rfl, trivial⟩ rfl rfl (fun _ => rfl) (fun _ _ => rfl) rfl (by decide) (by decide) ?_ ?_
  · rintro A X k5 x6 ⟨⟩ q3 hN h7 h8 H hq3
    replace H : token_signerAt_L1 v2 k5 x6 = some q3 := H
    unfold token_signerAt_L1 at H
    refine awp_plain hN rfl ?_
    refine seq_run2 (stp_alloc 4 tyZ38 rfl) rfl ?_
    refine seq_run2 (stp_storeW tyS38 rfl rfl rfl rfl) rfl ?_
    refine ⟨rfl, [(3, .ptr 1 0), (4, .ptr 2 0), (5, .ptr 3 0), (7, .ptr 4 0)], [(1, .box (some (A 1)) 3 [.dat (vint v2)]), (2, .box (some (A 2)) 38 [.dat (vstr []), .dat (vstr []), .dat (vint 0), .dat (vint 0), .dat (vint 0)]), (3, .box (some (A 3)) 4 [.dat (vbool false)]), (4, .box none 38 [.dat (vstr x6.Id), .dat (vstr x6.Secret), .dat (vint x6.From), .dat (vint x6.To), .dat (vint x6.Until)])], ⟨rfl, rfl, rfl, rfl, trivial⟩, ⟨rfl, rfl, rfl, rfl, trivial⟩, rfl, rfl, rfl, fun X hN => ?_⟩
    refine awp_block ?_
    refine awp_seq ?_
    refine awp_plain hN rfl ?_
    refine seq_run0 (stp_fldP tyF38_2 rfl) ?_
    refine seq_run1 (stp_load1 tyS3 rfl rfl) rfl ?_
    refine seq_run1 (stp_load1 tyS3 rfl rfl) rfl ?_
    refine seq_run0 (stp_leq rfl rfl) ?_
    refine seq_run0 (stp_move (.dat _) rfl) ?_
    refine seq_arT rfl rfl (fun hc => stp_load1 tyS3 rfl rfl) rfl anti_p ?_
    refine seq_aT rfl rfl (fun hc => stp_fldP tyF38_3 rfl) ?_
    refine seq_arT rfl rfl (fun hc => stp_load1 tyS3 (cnd (c := (decide (x6.From ≤ v2))) hc) rfl) rfl anti_p ?_
    refine seq_aT rfl rfl (fun hc => stp_lss (cnd (c := (decide (x6.From ≤ v2))) hc) (cnd (c := (decide (x6.From ≤ v2))) hc)) ?_
    refine seq_run0 (stp_pick_and rfl (fun hb => (cnd (c := (decide (x6.From ≤ v2))) hb)) rfl) ?_
    refine awp_cond _ rfl (fun h9 => ?_) (fun h9 => ?_)
    · replace H := ift h9 H
      refine awp_seq ?_
      refine awp_plain hN rfl ?_
      refine seq_run1 (stp_loadA tyS38 rfl rfl rfl) rfl ?_
      refine seq_run2 (stp_storeW tyS38 rfl rfl rfl rfl) rfl ?_
      refine seq_run2 (stp_store1 tyS4 rfl rfl rfl rfl) rfl ?_
      refine awp_ret ?_
      replace H := retl H hq3
      cases H
      exact ⟨[(1, 3, [vint v2]), (2, 38, [vstr x6.Id, vstr x6.Secret, vint x6.From, vint x6.To, vint x6.Until]), (3, 4, [vbool true])], rfl, rfl, ⟨rfl, rfl, rfl, trivial⟩, ⟨.inl ⟨_, _, _, C_api_Signer x6, rfl, rfl, rfl, rfl, tyS38⟩, .inr ⟨_, _, rfl, rfl, tyS4⟩, trivial⟩⟩
    · replace H := iff_ h9 H
      refine awp_skip ?_
      exact ⟨_, backl H, ⟨rfl, rfl, rfl, trivial⟩⟩
  · rintro A X ⟨⟩ hN hR H
    replace H : token_signerAt_E1 = some r := H
    unfold token_signerAt_E1 at H
    refine awp_seq ?_
    refine awp_plain hN rfl ?_
    refine seq_run0 (stp_dat (u' := vagg (C_api_Signer (S_api_Signer.mk [] [] 0 0 0))) (stp_build [] tyZ38 tyP38 rfl trivial) rfl) ?_
    refine seq_run2 (stp_storeW tyS38 rfl rfl rfl rfl) rfl ?_
    refine seq_run2 (stp_store1 tyS4 rfl rfl rfl rfl) rfl ?_
    refine awp_ret ?_
    cases H
    exact ⟨.inr rfl, [(4, .ptr 2 0), (5, .ptr 3 0)], [(2, .box (some (A 2)) 38 [.dat (vstr []), .dat (vstr []), .dat (vint 0), .dat (vint 0), .dat (vint 0)]), (3, .box (some (A 3)) 4 [.dat (vbool false)])], ⟨rfl, rfl, trivial⟩, ⟨rfl, rfl, trivial⟩, rfl, rfl, ⟨.inl ⟨_, _, _, C_api_Signer (S_api_Signer.mk [] [] 0 0 0), rfl, rfl, rfl, rfl, tyS38⟩, .inr ⟨_, _, rfl, rfl, tyS4⟩, trivial⟩⟩
theorem k_token_SignerAt (l1 : (List S_api_Signer)) (v2 : Int) (r : (Bs × Int)) (H : m_token_SignerAt l1 v2 = some r) : Fn Try.prog 17 [vlst (List.map C_api_Signer l1), vint v2] (resOf [vstr r.1, vint r.2]) := by
  refine ⟨by kernel_rfl, pure_of (us := [vstr r.1, vint r.2]) Try.func17 rfl rfl rfl rfl fun X hN => ?_⟩
  unfold m_token_SignerAt at H
  refine awp_seq ?_
  refine awp_plain hN rfl ?_
  refine seq_run0 (stp_assign (.dat _) rfl) ?_
  refine seq_run0 (stp_assign (.dat _) rfl) ?_
  refine awp_seq ?_
  refine awp_seq ?_
  refine awp_plain hN rfl ?_
  refine seq_run0 (stp_move (.dat _) rfl) ?_
  obtain ⟨r3, h4, H⟩ := bnd H
  refine seq_run0 (stp_call (k_token_CheckSigners l1 r3 h4) ⟨.inl rfl, trivial⟩) ?_
  refine seq_run0 (stp_assign (.dat _) rfl) ?_
  refine awp_seq ?_
  refine awp_plain hN rfl ?_
  refine seq_run0 (stp_move (.dat _) rfl) ?_
  refine seq_run0 (stp_neq rfl rfl) ?_
  refine awp_cond _ rfl (fun h5 => ?_) (fun h5 => ?_)
  · replace H := ift h5 H
    refine awp_seq ?_
    refine awp_plain hN rfl ?_
    refine seq_run0 (stp_move (.dat _) rfl) ?_
    refine seq_run0 (stp_assign (.dat _) rfl) ?_
    refine seq_run0 (stp_assign (.dat _) rfl) ?_
    refine awp_ret ?_
    cases H
    exact ⟨trivial, .inl rfl, .inl rfl, trivial⟩
  · replace H := iff_ h5 H
    refine awp_skip ?_
    refine awp_seq ?_
    refine awp_seq ?_
    refine awp_plain hN rfl ?_
    refine seq_run0 (stp_move (.dat _) rfl) ?_
    obtain ⟨r6, h7, H⟩ := bnd H
    refine seq_run0 (stp_call (k_token_momentFault v2 r6 h7) ⟨.inl rfl, trivial⟩) ?_
    refine seq_run0 (stp_assign (.dat _) rfl) ?_
    refine awp_seq ?_
    refine awp_plain hN rfl ?_
    refine seq_run0 (stp_move (.dat _) rfl) ?_
    refine seq_run0 (stp_neq rfl rfl) ?_
    refine awp_cond _ rfl (fun h8 => ?_) (fun h8 => ?_)
    · replace H := ift h8 H
      refine awp_seq ?_
      refine awp_plain hN rfl ?_
      refine seq_run0 (stp_move (.dat _) rfl) ?_
      refine seq_run0 (stp_assign (.dat _) rfl) ?_
      refine seq_run0 (stp_assign (.dat _) rfl) ?_
      refine awp_ret ?_
      cases H
      exact ⟨trivial, .inl rfl, .inl rfl, trivial⟩
    · replace H := iff_ h8 H
      refine awp_skip ?_
      refine awp_seq ?_
      refine awp_plain hN rfl ?_
      refine seq_run0 (stp_move (.dat _) rfl) ?_
      refine seq_run0 (stp_move (.dat _) rfl) ?_
      obtain ⟨r9, h10, H⟩ := bnd H
      refine seq_run0 (stp_call (k_token_signerAt l1 v2 r9 h10) ⟨.inl rfl, .inl rfl, trivial⟩) ?_
      refine seq_run0 (stp_move (.dat _) rfl) ?_
      refine seq_run0 (stp_ext rfl rfl) ?_
      refine seq_run0 (stp_ext rfl rfl) ?_
      refine seq_run2 (stp_alloc 1 tyZ38 rfl) rfl ?_
      refine seq_run2 (stp_storeW tyS38 rfl rfl rfl rfl) rfl ?_
      refine seq_run0 (stp_assign (.dat _) rfl) ?_
      refine awp_seq ?_
      refine awp_seq ?_
      refine awp_plain hN rfl ?_
      refine seq_run0 (stp_move (.dat _) rfl) ?_
      refine seq_run0 (stp_not rfl) ?_
      refine awp_cond _ rfl (fun h11 => ?_) (fun h11 => ?_)
      · replace H := ift h11 H
        refine awp_seq ?_
        refine awp_plain hN rfl ?_
        refine seq_run0 (stp_assign (.dat _) rfl) ?_
        refine seq_run0 (stp_assign (.dat _) rfl) ?_
        refine awp_ret ?_
        cases H
        exact ⟨trivial, .inl rfl, .inl rfl, trivial⟩
      · replace H := iff_ h11 H
        refine awp_skip ?_
        refine awp_seq ?_
        refine awp_plain hN rfl ?_
        refine seq_run0 (stp_fldP tyF38_0 rfl) ?_
        refine seq_run1 (stp_load1 tyS9 rfl rfl) rfl ?_
        refine seq_run0 (stp_assign (.dat _) rfl) ?_
        refine seq_run0 (stp_assign (.dat _) rfl) ?_
        refine awp_ret ?_
        cases H
        exact ⟨trivial, .inl rfl, .inl rfl, trivial⟩
theorem kt_slices_Sort_L_int_int_ (l r : List Int) (H : m_slices_Sort_int l = some r) : FnG Try.prog 43 [.row 0 l.length] [(0, .rowA undef 3 1 (List.map C_int l))] (.dat (resOf [])) [(0, .rowA undef 3 1 (List.map C_int r))] := by
  obtain ⟨hl, hr⟩ := sort_some H
  refine fnG_turn (Value.int .i64) r l (sort_len H) (by kernel_rfl) (fun _ => rfl) (fun blk cap w hH hb => ?_) (fun h w => ?_)
  · rw [hr]; exact Try.slices_Sort_int blk 0 cap l w hH hb (by omega)
  · exact Try.slices_Sort_int_none none 0 w
theorem ks_slices_Compact_L_int_int_ (l r : List Int) (H : m_slices_Compact_int l = some r) : FnG Try.prog 44 [.row 0 l.length] [(0, .row 3 1 (List.map C_int l))] (.row 900 r.length) [(900, .row 3 1 (List.map C_int r))] := by
  obtain ⟨h1, rfl⟩ := compactI_some H
  exact fnG_short (Value.int .i64) 0 (Lib.compact l) l (compact_lenI l) (by kernel_rfl) (fun _ => rfl) (fun blk cap w hH hc => Try.slices_Compact_int blk 0 cap l w hH (by omega) hc) (fun h a cap w => Try.slices_Compact_int_empty a cap w)
end Go.Proofs.Ytpeeeanmfmhlgaa
