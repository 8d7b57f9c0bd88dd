/- Walks along the models. Printed by a program. -/
import Derived.Test.YtpeeeanmfmhlgaaGreatDoorVw1
namespace Go.Proofs.YtpeeeanmfmhlgaaGreatDoor
open Go.RowKit
set_option linter.unusedVariables false
set_option maxRecDepth 20000
theorem k_gateref2_LeastOf_1 (o1 : Bs) (c2 : Bs) (r : (Bool)) (H : m_gateref2_LeastOf_1 o1 c2 = some r) : Fn Tryz.prog 39 [vstr o1, vcell [[vstr c2]] 0 0] (resOf [vbool r]) := by
  refine ⟨by kernel_rfl, pure_of (us := [vbool r]) Tryz.func39 rfl rfl rfl rfl fun X hN => ?_⟩
  unfold m_gateref2_LeastOf_1 at H
  refine awp_seq ?_
  refine awp_plain hN rfl ?_
  refine seq_run0 (stp_assign (.dat _) rfl) ?_
  refine awp_joinE (ι := Bool) (fun i => [(3, .dat (vbool i))]) (fun i => []) (fun i => gateref2_LeastOf_1_J1 i = some r) (fun i => rfl) ?_ ?_
  · skip
    refine awp_plain hN rfl ?_
    refine seq_run0 (stp_move (.dat _) rfl) ?_
    refine seq_run0 (stp_loadE1 tyS9 rfl rfl rfl) ?_
    refine seq_run0 (stp_sneq rfl rfl) ?_
    refine seq_run0 (stp_move (.dat _) rfl) ?_
    refine seq_split (j := 3) rfl rfl (fun h3 => ?_) (fun h3 => ?_) rfl
    · have h4 := un1 h3
      replace H := ift h4 H
      refine seq_g0 rfl rfl h3 (stp_move (.dat _) rfl) ?_
      refine seq_g0 rfl rfl h3 (stp_loadE1 tyS9 rfl rfl rfl) ?_
      obtain ⟨r5, h6, H⟩ := bnd H
      refine seq_g0 rfl rfl h3 (stp_call (k_gateref2_over o1 c2 r5 h6) ⟨.inl rfl, .inl rfl, trivial⟩) ?_
      refine seq_run0 (stp_pick_t rfl (bTT h4) rfl) ?_
      refine seq_run0 (stp_assign (.dat _) rfl) ?_
      exact ⟨r5, H, ⟨rfl, trivial⟩, trivial⟩
    · have h7 := un2 h3
      replace H := iff_ h7 H
      refine seq_skip rfl rfl h3 ?_
      refine seq_skip rfl rfl h3 ?_
      refine seq_skip rfl rfl h3 ?_
      refine seq_run0 (stp_pick_f rfl (bFF h7) rfl) ?_
      refine seq_run0 (stp_assign (.dat _) rfl) ?_
      exact ⟨false, H, ⟨rfl, trivial⟩, trivial⟩
  · rintro v8 H
    replace H : gateref2_LeastOf_1_J1 v8 = some r := H
    unfold gateref2_LeastOf_1_J1 at H
    refine awp_ret ?_
    cases H
    exact ⟨trivial, .inl rfl, trivial⟩
theorem k_gateref2_LeastOf (l1 : (List Bs)) (r : ((List Bs))) (H : m_gateref2_LeastOf l1 = some r) : Fn Tryz.prog 13 [vlst (List.map C_string l1)] (resOf [vlst (List.map C_string r)]) := by
  refine ⟨by kernel_rfl, pure_of (us := [vlst (List.map C_string r)]) Tryz.func13 rfl rfl rfl rfl fun X hN => ?_⟩
  unfold m_gateref2_LeastOf at H
  refine awp_seq ?_
  refine awp_plain hN rfl ?_
  refine seq_run0 (stp_assign (.dat _) rfl) ?_
  refine awp_seq ?_
  refine awp_plain hN rfl ?_
  refine seq_run0 (stp_assign (.dat _) rfl) ?_
  refine awp_seq ?_
  refine awp_seq ?_
  refine awp_plain hN rfl ?_
  refine seq_run0 (stp_move (.dat _) rfl) ?_
  refine seq_run0 (t_len tyU26 rfl) ?_
  refine seq_run0 (stp_move (.dat _) rfl) ?_
  refine awp_block ?_
  refine awp_nilrow 3 1 9 1 rfl rfl rfl ?_
  obtain ⟨h5, H⟩ := gif H
  refine awp_forL (fun (k3 : Nat) (s : (List Bs)) => [(0, .dat (vlst (List.map C_string l1))), (3, .row 1 s.length), (6, .dat (vlst (List.map C_string l1))), (7, .dat (vint (l1.length : Int))), (8, .dat (vint (k3 : Int)))]) (fun (k3 : Nat) (s : (List Bs)) => [(1, .row 9 1 (List.map C_string s))]) [] H ⟨rfl, congrArg (Slot.row 1) (by simp), rfl, rfl, rfl, trivial⟩ ⟨rfl, trivial⟩ (fun _ _ => rfl) ?_ ?_
  · rintro l2 H
    replace H : gateref2_LeastOf_E1 l2 = some r := H
    unfold gateref2_LeastOf_E1 at H
    refine awp_seq ?_
    refine awp_plain hN rfl ?_
    refine seq_run0 (stp_lss rfl rfl) ?_
    refine awp_seq ?_
    refine awp_cond _ rfl (fun h => (lt_t h).elim) (fun h => ?_)
    refine awp_exit ?_
    refine awp_seq ?_
    refine awp_plain hN rfl ?_
    refine seq_run0 (stp_move (.row _ _) rfl) ?_
    obtain ⟨r7, h8, H⟩ := bnd H
    refine seq_callG (rn [(0, 1)]) [(0, _, _, some _)] [] (kt_slices_Sort_L_string_string_ l2 r7 h8) ⟨rfl, trivial⟩ ⟨.inl (.inl rfl), trivial⟩ ⟨⟨⟨rfl, rfl, rfl⟩, by simp [stayP, sortS_len h8]⟩, trivial⟩ rfl ?_
    refine awp_seq ?_
    refine awp_plain hN rfl ?_
    refine seq_run0 (stp_move (.row _ _) rfl) ?_
    obtain ⟨r9, h10, H⟩ := bnd H
    refine seq_callG (rn [(0, 1), (900, 2)]) [(0, _, _, none)] [(900, _)] (ks_slices_Compact_L_string_string_ r7 r9 h10) ⟨rfl, rfl, trivial⟩ ⟨.inl (.inl (congrArg (Slot.row 1) (sortS_len h8).symm)), trivial⟩ ⟨⟨⟨rfl, rfl, rfl⟩, trivial⟩, trivial⟩ rfl ?_
    refine seq_run0 (stp_assign (.row _ _) rfl) ?_
    refine awp_ret ?_
    cases H
    exact ⟨trivial, t_slotv rfl rfl, trivial⟩
  · rintro k3 x6 l2 q4 h11 h12 H hq4
    replace H : gateref2_LeastOf_L1 l1 k3 x6 l2 = some q4 := H
    unfold gateref2_LeastOf_L1 at H
    refine awp_seq ?_
    refine awp_plain hN rfl ?_
    refine seq_run0 (stp_lss rfl rfl) ?_
    refine awp_seq ?_
    refine awp_cond _ rfl (fun h => ?_) (fun h => (lt_f h11 h).elim)
    refine awp_skip ?_
    refine awp_joinE (ι := (List Bs)) (fun i => [(0, .dat (vlst (List.map C_string l1))), (3, .row 1 i.length), (6, .dat (vlst (List.map C_string l1))), (7, .dat (vint (l1.length : Int))), (8, .dat (vint (k3 : Int)))]) (fun i => [(1, .row 9 1 (List.map C_string i))]) (fun i => gateref2_LeastOf_J2 i = some q4) (fun i => rfl) ?_ ?_
    · skip
      refine awp_block ?_
      refine awp_seq ?_
      refine awp_plain hN rfl ?_
      refine seq_run0 (t_idx tyE26 (fun _ => rfl) rfl rfl h12) ?_
      refine seq_run0 (stp_loadE1 tyS9 rfl (map_at h12) rfl) ?_
      refine seq_run2 (stp_alloc 3 tyZ9 rfl) rfl ?_
      refine seq_run2 (stp_store1 tyS9 rfl rfl rfl rfl) rfl ?_
      refine awp_seq ?_
      refine awp_frzB 3 [vstr x6] rfl rfl ?_
      refine awp_plain hN rfl ?_
      refine seq_run0 (stp_move (.dat _) rfl) ?_
      refine seq_run0 (stp_mkfn (us := [_]) ⟨rfl, trivial⟩) ?_
      obtain ⟨r13, h14, H⟩ := bnd H
      refine seq_run0 (stp_call (k_slices_ContainsFunc_L_string_string_ l1 (fun (a0 : Bs) => m_gateref2_LeastOf_1 a0 x6) 39 [vcell [[vstr x6]] 0 0] (fun a0 r h => k_gateref2_LeastOf_1 a0 x6 r h) r13 h14) ⟨.inl rfl, .inl rfl, trivial⟩) ?_
      refine seq_run0 (stp_not rfl) ?_
      refine awp_cond _ rfl (fun h15 => ?_) (fun h15 => ?_)
      · replace H := ift h15 H
        refine awp_plain hN rfl ?_
        refine seq_run0 (stp_move (.row _ _) rfl) ?_
        refine seq_run0 (stp_loadE1 tyS9 rfl rfl rfl) ?_
        refine seq_run0 (stp_dat (u' := vlst (List.map C_string [x6])) (stp_lit [[_]] tyL26 ⟨rfl, .inl ⟨_, rfl, rfl, rfl⟩, rfl, trivial⟩ rfl rfl) rfl) ?_
        obtain ⟨h16, H⟩ := gif H
        refine seq_run2 (t_app tyL26 (fun _ => rfl) rfl rfl rfl ⟨by simp, by simpa using h16⟩ rfl) rfl ?_
        refine seq_run0 (stp_assign (.row _ _) rfl) ?_
        exact ⟨(l2 ++ [x6]), H, ⟨rfl, rfl, rfl, rfl, rfl, trivial⟩, ⟨rfl, trivial⟩⟩
      · replace H := iff_ h15 H
        refine awp_skip ?_
        exact ⟨l2, H, ⟨rfl, rfl, rfl, rfl, rfl, trivial⟩, ⟨rfl, trivial⟩⟩
    · rintro out17 H
      replace H : gateref2_LeastOf_J2 out17 = some q4 := H
      unfold gateref2_LeastOf_J2 at H
      refine awp_plain hN rfl ?_
      refine seq_run0 (stp_add rfl rfl (by omega)) ?_
      refine seq_run0 (stp_move (.dat _) rfl) ?_
      exact ⟨_, backl H, ⟨rfl, rfl, rfl, rfl, rfl, trivial⟩, ⟨rfl, trivial⟩⟩
theorem kr_slices_Grow_L_string_string_ (n : Int) (r : List Bs) (H : m_slices_Grow n = some r) : FnG Tryz.prog 70 [.dat vnil, .dat (vint n)] [] (.row 900 r.length) [(900, .row 9 1 (List.map C_string r))] := by
  obtain ⟨h0, h1, rfl⟩ := grow_some H
  exact fnG_grow Tryz.grow70 rfl rfl tyL26 rfl (by kernel_rfl) n h0 h1
theorem k_slices_Grow_L_string_string_ (n : Int) (r : List Bs) (H : m_slices_Grow n = some r) : Fn Tryz.prog 70 [vnil, vint n] (resOf [vlst (List.map C_string r)]) := by
  have h := kr_slices_Grow_L_string_string_ n r H
  rw [← List.length_map (f := C_string)] at h
  exact fn_of_fnG h
theorem k_slices_Concat_L_string_string_ (slices1 : (List (List Bs))) (r : ((List Bs))) (H : m_slices_Concat_L_string_string_ slices1 = some r) : Fn Tryz.prog 43 [vlst (List.map C_L_string slices1)] (resOf [vlst (List.map C_string r)]) := by
  refine ⟨by kernel_rfl, pure_of (us := [vlst (List.map C_string r)]) Tryz.func43 rfl rfl rfl rfl fun X hN => ?_⟩
  unfold m_slices_Concat_L_string_string_ at H
  refine awp_seq ?_
  refine awp_plain hN rfl ?_
  refine seq_run0 (stp_assign (.dat _) rfl) ?_
  refine awp_seq ?_
  refine awp_plain hN rfl ?_
  refine seq_run0 (stp_assign (.dat _) rfl) ?_
  refine awp_seq ?_
  refine awp_seq ?_
  refine awp_plain hN rfl ?_
  refine seq_run0 (stp_move (.dat _) rfl) ?_
  refine seq_run0 (t_len tyU66 rfl) ?_
  refine seq_run0 (stp_move (.dat _) rfl) ?_
  refine awp_block ?_
  obtain ⟨h5, H⟩ := gif H
  refine awp_forL (fun (k3 : Nat) (s : Int) => [(0, .dat (vlst (List.map C_L_string slices1))), (3, .dat (vint s)), (9, .dat (vlst (List.map C_L_string slices1))), (10, .dat (vint (slices1.length : Int))), (11, .dat (vint (k3 : Int)))]) (fun (k3 : Nat) (s : Int) => []) 0 H ⟨rfl, rfl, rfl, rfl, rfl, trivial⟩ trivial (fun _ _ => rfl) ?_ ?_
  · rintro size2 H
    replace H : slices_Concat_L_string_string__E1 slices1 size2 = some r := H
    unfold slices_Concat_L_string_string__E1 at H
    refine awp_seq ?_
    refine awp_plain hN rfl ?_
    refine seq_run0 (stp_lss rfl rfl) ?_
    refine awp_seq ?_
    refine awp_cond _ rfl (fun h => (lt_t h).elim) (fun h => ?_)
    refine awp_exit ?_
    refine awp_seq ?_
    refine awp_plain hN rfl ?_
    refine seq_run0 (stp_move (.dat _) rfl) ?_
    obtain ⟨r7, h8, H⟩ := bnd H
    refine seq_callG (rn [(900, 1)]) [] [(900, _)] (kr_slices_Grow_L_string_string_ size2 r7 h8) ⟨rfl, trivial⟩ ⟨.inl (.inl rfl), .inl (.inl rfl), trivial⟩ trivial rfl ?_
    refine seq_run0 (stp_assign (.row _ _) rfl) ?_
    refine awp_seq ?_
    refine awp_seq ?_
    refine awp_plain hN rfl ?_
    refine seq_run0 (stp_move (.dat _) rfl) ?_
    refine seq_run0 (t_len tyU66 rfl) ?_
    refine seq_run0 (stp_move (.dat _) rfl) ?_
    refine awp_block ?_
    obtain ⟨h12, H⟩ := gif H
    refine awp_forL (fun (k10 : Nat) (s : (List Bs)) => [(6, .row 1 s.length), (25, .dat (vlst (List.map C_L_string slices1))), (26, .dat (vint (slices1.length : Int))), (27, .dat (vint (k10 : Int)))]) (fun (k10 : Nat) (s : (List Bs)) => [(1, .row 9 1 (List.map C_string s))]) r7 H ⟨rfl, rfl, rfl, rfl, trivial⟩ ⟨rfl, trivial⟩ (fun _ _ => rfl) ?_ ?_
    · rintro l9 H
      replace H : slices_Concat_L_string_string__E2 l9 = some r := H
      unfold slices_Concat_L_string_string__E2 at H
      refine awp_seq ?_
      refine awp_plain hN rfl ?_
      refine seq_run0 (stp_lss rfl rfl) ?_
      refine awp_seq ?_
      refine awp_cond _ rfl (fun h => (lt_t h).elim) (fun h => ?_)
      refine awp_exit ?_
      refine awp_seq ?_
      refine awp_plain hN rfl ?_
      refine seq_run0 (stp_move (.row _ _) rfl) ?_
      refine seq_run0 (stp_assign (.row _ _) rfl) ?_
      refine awp_ret ?_
      cases H
      exact ⟨trivial, t_slotv rfl rfl, trivial⟩
    · rintro k10 x13 l9 q11 h14 h15 H hq11
      replace H : slices_Concat_L_string_string__L2 k10 x13 l9 = some q11 := H
      unfold slices_Concat_L_string_string__L2 at H
      refine awp_seq ?_
      refine awp_plain hN rfl ?_
      refine seq_run0 (stp_lss rfl rfl) ?_
      refine awp_seq ?_
      refine awp_cond _ rfl (fun h => ?_) (fun h => (lt_f h14 h).elim)
      refine awp_skip ?_
      refine awp_seq ?_
      refine awp_block ?_
      refine awp_seq ?_
      refine awp_plain hN rfl ?_
      refine seq_run0 (t_idx tyE66 (fun _ => rfl) rfl rfl h15) ?_
      refine seq_run0 (stp_loadE1 tyS26 rfl (map_at h15) rfl) ?_
      refine seq_run0 (stp_assign (.dat _) rfl) ?_
      refine awp_plain hN rfl ?_
      refine seq_run0 (stp_move (.row _ _) rfl) ?_
      refine seq_run0 (stp_move (.dat _) rfl) ?_
      obtain ⟨h16, H⟩ := gif H
      refine seq_run2 (t_app2 tyL26 (fun _ => rfl) rfl rfl rfl h16 rfl) rfl ?_
      refine seq_run0 (stp_assign (.row _ _) rfl) ?_
      refine awp_plain hN rfl ?_
      refine seq_run0 (stp_add rfl rfl (by omega)) ?_
      refine seq_run0 (stp_move (.dat _) rfl) ?_
      exact ⟨_, backl H, ⟨rfl, rfl, rfl, rfl, trivial⟩, ⟨rfl, trivial⟩⟩
  · rintro k3 x6 size2 q4 h17 h18 H hq4
    replace H : slices_Concat_L_string_string__L1 k3 x6 size2 = some q4 := H
    unfold slices_Concat_L_string_string__L1 at H
    refine awp_seq ?_
    refine awp_plain hN rfl ?_
    refine seq_run0 (stp_lss rfl rfl) ?_
    refine awp_seq ?_
    refine awp_cond _ rfl (fun h => ?_) (fun h => (lt_f h17 h).elim)
    refine awp_skip ?_
    refine awp_seq ?_
    refine awp_block ?_
    refine awp_seq ?_
    refine awp_plain hN rfl ?_
    refine seq_run0 (t_idx tyE66 (fun _ => rfl) rfl rfl h18) ?_
    refine seq_run0 (stp_loadE1 tyS26 rfl (map_at h18) rfl) ?_
    refine seq_run0 (stp_assign (.dat _) rfl) ?_
    refine awp_seq ?_
    refine awp_plain hN rfl ?_
    refine seq_run0 (stp_move (.dat _) rfl) ?_
    refine seq_run0 (stp_move (.dat _) rfl) ?_
    refine seq_run0 (t_len tyU26 rfl) ?_
    refine seq_run0 (stp_wrap _ rfl rfl (.inl ⟨rfl, rfl⟩)) ?_
    refine seq_run0 (stp_assign (.dat _) rfl) ?_
    refine awp_seq ?_
    refine awp_plain hN rfl ?_
    refine seq_run0 (stp_move (.dat _) rfl) ?_
    refine seq_run0 (stp_lss rfl rfl) ?_
    refine awp_cond _ rfl (fun h19 => ?_) (fun h19 => ?_)
    · replace H := ift h19 H
      cases H
    · replace H := iff_ h19 H
      refine awp_skip ?_
      refine awp_plain hN rfl ?_
      refine seq_run0 (stp_add rfl rfl (by omega)) ?_
      refine seq_run0 (stp_move (.dat _) rfl) ?_
      exact ⟨_, backl H, ⟨rfl, rfl, rfl, rfl, rfl, trivial⟩, trivial⟩
theorem k_gateref2_MeetOf (a1 : (List Bs)) (b2 : (List Bs)) (r : ((List Bs))) (H : m_gateref2_MeetOf a1 b2 = some r) : Fn Tryz.prog 14 [vlst (List.map C_string a1), vlst (List.map C_string b2)] (resOf [vlst (List.map C_string r)]) := by
  refine ⟨by kernel_rfl, pure_of (us := [vlst (List.map C_string r)]) Tryz.func14 rfl rfl rfl rfl fun X hN => ?_⟩
  unfold m_gateref2_MeetOf at H
  refine awp_seq ?_
  refine awp_plain hN rfl ?_
  refine seq_run0 (stp_assign (.dat _) rfl) ?_
  refine awp_seq ?_
  refine awp_plain hN rfl ?_
  refine seq_run0 (stp_assign (.dat _) rfl) ?_
  refine awp_seq ?_
  refine awp_seq ?_
  refine awp_plain hN rfl ?_
  refine seq_run0 (stp_move (.dat _) rfl) ?_
  refine seq_run0 (stp_move (.dat _) rfl) ?_
  refine seq_run0 (stp_dat (u' := vlst (List.map C_L_string [a1, b2])) (stp_lit [[_], [_]] tyL66 ⟨rfl, .inl ⟨_, rfl, rfl, rfl⟩, rfl, rfl, .inl ⟨_, rfl, rfl, rfl⟩, rfl, trivial⟩ rfl rfl) rfl) ?_
  obtain ⟨r3, h4, H⟩ := bnd H
  refine seq_run0 (stp_call (k_slices_Concat_L_string_string_ [a1, b2] r3 h4) ⟨.inl rfl, trivial⟩) ?_
  refine seq_run0 (t_len tyU26 rfl) ?_
  refine seq_run0 (stp_move (.dat _) rfl) ?_
  refine awp_block ?_
  refine awp_nilrow 5 1 9 1 rfl rfl rfl ?_
  obtain ⟨h8, H⟩ := gif H
  refine awp_forL (fun (k6 : Nat) (s : (List Bs)) => [(0, .dat (vlst (List.map C_string a1))), (1, .dat (vlst (List.map C_string b2))), (5, .row 1 s.length), (11, .dat (vlst (List.map C_string r3))), (12, .dat (vint (r3.length : Int))), (13, .dat (vint (k6 : Int)))]) (fun (k6 : Nat) (s : (List Bs)) => [(1, .row 9 1 (List.map C_string s))]) [] H ⟨rfl, rfl, congrArg (Slot.row 1) (by simp), rfl, rfl, rfl, trivial⟩ ⟨rfl, trivial⟩ (fun _ _ => rfl) ?_ ?_
  · rintro l5 H
    replace H : gateref2_MeetOf_E1 l5 = some r := H
    unfold gateref2_MeetOf_E1 at H
    refine awp_seq ?_
    refine awp_plain hN rfl ?_
    refine seq_run0 (stp_lss rfl rfl) ?_
    refine awp_seq ?_
    refine awp_cond _ rfl (fun h => (lt_t h).elim) (fun h => ?_)
    refine awp_exit ?_
    refine awp_seq ?_
    refine t_freeze 5 1 rfl rfl rfl ?_
    refine awp_plain hN rfl ?_
    refine seq_run0 (stp_move (.dat _) rfl) ?_
    obtain ⟨r10, h11, H⟩ := bnd H
    refine seq_run0 (stp_call (k_gateref2_LeastOf l5 r10 h11) ⟨.inl rfl, trivial⟩) ?_
    refine seq_run0 (stp_assign (.dat _) rfl) ?_
    refine awp_ret ?_
    cases H
    exact ⟨trivial, .inl rfl, trivial⟩
  · rintro k6 x9 l5 q7 h12 h13 H hq7
    replace H : gateref2_MeetOf_L1 a1 b2 k6 x9 l5 = some q7 := H
    unfold gateref2_MeetOf_L1 at H
    refine awp_seq ?_
    refine awp_plain hN rfl ?_
    refine seq_run0 (stp_lss rfl rfl) ?_
    refine awp_seq ?_
    refine awp_cond _ rfl (fun h => ?_) (fun h => (lt_f h12 h).elim)
    refine awp_skip ?_
    refine awp_joinE (ι := (List Bs)) (fun i => [(0, .dat (vlst (List.map C_string a1))), (1, .dat (vlst (List.map C_string b2))), (5, .row 1 i.length), (11, .dat (vlst (List.map C_string r3))), (12, .dat (vint (r3.length : Int))), (13, .dat (vint (k6 : Int)))]) (fun i => [(1, .row 9 1 (List.map C_string i))]) (fun i => gateref2_MeetOf_J2 i = some q7) (fun i => rfl) ?_ ?_
    · skip
      refine awp_block ?_
      refine awp_seq ?_
      refine awp_plain hN rfl ?_
      refine seq_run0 (t_idx tyE26 (fun _ => rfl) rfl rfl h13) ?_
      refine seq_run0 (stp_loadE1 tyS9 rfl (map_at h13) rfl) ?_
      refine seq_run0 (stp_assign (.dat _) rfl) ?_
      refine awp_joinE (ι := Bool) (fun i => [(0, .dat (vlst (List.map C_string a1))), (1, .dat (vlst (List.map C_string b2))), (5, .row 1 l5.length), (7, .dat (vstr x9)), (11, .dat (vlst (List.map C_string r3))), (12, .dat (vint (r3.length : Int))), (13, .dat (vint (k6 : Int))), (24, .dat (vbool i))]) (fun i => [(1, .row 9 1 (List.map C_string l5))]) (fun i => gateref2_MeetOf_J3 l5 x9 i = some q7) (fun i => rfl) ?_ ?_
      · skip
        refine awp_plain hN rfl ?_
        refine seq_run0 (stp_move (.dat _) rfl) ?_
        refine seq_run0 (stp_move (.dat _) rfl) ?_
        obtain ⟨r14, h15, H⟩ := bnd H
        refine seq_run0 (stp_call (k_gateref2_covered a1 x9 r14 h15) ⟨.inl rfl, .inl rfl, trivial⟩) ?_
        refine seq_run0 (stp_move (.dat _) rfl) ?_
        refine seq_split (j := 3) rfl rfl (fun h16 => ?_) (fun h16 => ?_) rfl
        · have h17 := un1 h16
          replace H := ift h17 H
          refine seq_g0 rfl rfl h16 (stp_move (.dat _) rfl) ?_
          refine seq_g0 rfl rfl h16 (stp_move (.dat _) rfl) ?_
          obtain ⟨r18, h19, H⟩ := bnd H
          refine seq_g0 rfl rfl h16 (stp_call (k_gateref2_covered b2 x9 r18 h19) ⟨.inl rfl, .inl rfl, trivial⟩) ?_
          refine seq_run0 (stp_pick_t rfl (bTT h17) rfl) ?_
          exact ⟨r18, H, ⟨rfl, rfl, rfl, rfl, rfl, rfl, rfl, rfl, trivial⟩, ⟨rfl, trivial⟩⟩
        · have h20 := un2 h16
          replace H := iff_ h20 H
          refine seq_skip rfl rfl h16 ?_
          refine seq_skip rfl rfl h16 ?_
          refine seq_skip rfl rfl h16 ?_
          refine seq_run0 (stp_pick_f rfl (bFF h20) rfl) ?_
          exact ⟨false, H, ⟨rfl, rfl, rfl, rfl, rfl, rfl, rfl, rfl, trivial⟩, ⟨rfl, trivial⟩⟩
      · rintro v21 H
        replace H : gateref2_MeetOf_J3 l5 x9 v21 = some q7 := H
        unfold gateref2_MeetOf_J3 at H
        refine awp_cond _ rfl (fun h22 => ?_) (fun h22 => ?_)
        · replace H := ift h22 H
          refine awp_plain hN rfl ?_
          refine seq_run0 (stp_move (.row _ _) rfl) ?_
          refine seq_run0 (stp_move (.dat _) rfl) ?_
          refine seq_run0 (stp_dat (u' := vlst (List.map C_string [x9])) (stp_lit [[_]] tyL26 ⟨rfl, .inl ⟨_, rfl, rfl, rfl⟩, rfl, trivial⟩ rfl rfl) rfl) ?_
          obtain ⟨h23, H⟩ := gif H
          refine seq_run2 (t_app tyL26 (fun _ => rfl) rfl rfl rfl ⟨by simp, by simpa using h23⟩ rfl) rfl ?_
          refine seq_run0 (stp_assign (.row _ _) rfl) ?_
          exact ⟨(l5 ++ [x9]), H, ⟨rfl, rfl, rfl, rfl, rfl, rfl, trivial⟩, ⟨rfl, trivial⟩⟩
        · replace H := iff_ h22 H
          refine awp_skip ?_
          exact ⟨l5, H, ⟨rfl, rfl, rfl, rfl, rfl, rfl, trivial⟩, ⟨rfl, trivial⟩⟩
    · rintro out24 H
      replace H : gateref2_MeetOf_J2 out24 = some q7 := H
      unfold gateref2_MeetOf_J2 at H
      refine awp_plain hN rfl ?_
      refine seq_run0 (stp_add rfl rfl (by omega)) ?_
      refine seq_run0 (stp_move (.dat _) rfl) ?_
      exact ⟨_, backl H, ⟨rfl, rfl, rfl, rfl, rfl, rfl, trivial⟩, ⟨rfl, trivial⟩⟩
theorem k_slices_Equal_L_string_string_ (s1 : (List Bs)) (s2 : (List Bs)) (r : (Bool)) (H : m_slices_Equal_L_string_string_ s1 s2 = some r) : Fn Tryz.prog 15 [vlst (List.map C_string s1), vlst (List.map C_string s2)] (resOf [vbool r]) := by
  refine ⟨by kernel_rfl, pure_of (us := [vbool r]) Tryz.func15 rfl rfl rfl rfl fun X hN => ?_⟩
  unfold m_slices_Equal_L_string_string_ at H
  refine awp_seq ?_
  refine awp_plain hN rfl ?_
  refine seq_run0 (stp_assign (.dat _) rfl) ?_
  refine awp_seq ?_
  refine awp_seq ?_
  refine awp_plain hN rfl ?_
  refine seq_run0 (stp_move (.dat _) rfl) ?_
  refine seq_run0 (t_len tyU26 rfl) ?_
  refine seq_run0 (stp_move (.dat _) rfl) ?_
  refine seq_run0 (t_len tyU26 rfl) ?_
  refine seq_run0 (stp_neq rfl rfl) ?_
  refine awp_cond _ rfl (fun h3 => ?_) (fun h3 => ?_)
  · replace H := ift h3 H
    refine awp_seq ?_
    refine awp_plain hN rfl ?_
    refine seq_run0 (stp_assign (.dat _) rfl) ?_
    refine awp_ret ?_
    cases H
    exact ⟨trivial, .inl rfl, trivial⟩
  · replace H := iff_ h3 H
    refine awp_skip ?_
    refine awp_seq ?_
    refine awp_seq ?_
    refine awp_plain hN rfl ?_
    refine seq_run0 (stp_move (.dat _) rfl) ?_
    refine seq_run0 (t_len tyU26 rfl) ?_
    refine seq_run0 (stp_move (.dat _) rfl) ?_
    refine awp_block ?_
    obtain ⟨h6, H⟩ := gif H
    refine awp_forL (fun (k4 : Nat) (s : Unit) => [(0, .dat (vlst (List.map C_string s1))), (1, .dat (vlst (List.map C_string s2))), (12, .dat (vint (s1.length : Int))), (13, .dat (vint (k4 : Int)))]) (fun (k4 : Nat) (s : Unit) => []) () H ⟨rfl, rfl, rfl, rfl, trivial⟩ trivial (fun _ _ => rfl) ?_ ?_
    · rintro ⟨⟩ H
      replace H : slices_Equal_L_string_string__E1 = some r := H
      unfold slices_Equal_L_string_string__E1 at H
      refine awp_seq ?_
      refine awp_plain hN rfl ?_
      refine seq_run0 (stp_lss rfl rfl) ?_
      refine awp_seq ?_
      refine awp_cond _ rfl (fun h => (lt_t h).elim) (fun h => ?_)
      refine awp_exit ?_
      refine awp_seq ?_
      refine awp_plain hN rfl ?_
      refine seq_run0 (stp_assign (.dat _) rfl) ?_
      refine awp_ret ?_
      cases H
      exact ⟨trivial, .inl rfl, trivial⟩
    · rintro k4 x7 ⟨⟩ q5 h8 h9 H hq5
      replace H : slices_Equal_L_string_string__L1 s2 k4 x7 = some q5 := H
      unfold slices_Equal_L_string_string__L1 at H
      refine awp_seq ?_
      refine awp_plain hN rfl ?_
      refine seq_run0 (stp_lss rfl rfl) ?_
      refine awp_seq ?_
      refine awp_cond _ rfl (fun h => ?_) (fun h => (lt_f h8 h).elim)
      refine awp_skip ?_
      refine awp_seq ?_
      refine awp_block ?_
      refine awp_seq ?_
      refine awp_plain hN rfl ?_
      refine seq_run0 (stp_move (.dat _) rfl) ?_
      refine seq_run0 (stp_assign (.dat _) rfl) ?_
      refine awp_seq ?_
      refine awp_draw mixed hN rfl rfl ?_
      refine seq_run0 (stp_move (.dat _) rfl) ?_
      refine seq_run0 (stp_move (.dat _) rfl) ?_
      refine seq_run0 (t_idx tyE26 (fun _ => rfl) rfl rfl h9) ?_
      refine seq_run0 (stp_loadE1 tyS9 rfl (map_at h9) rfl) ?_
      refine seq_run0 (stp_move (.dat _) rfl) ?_
      refine seq_run0 (stp_move (.dat _) rfl) ?_
      obtain ⟨x10, h11, H⟩ := bnd H
      refine seq_run0 (t_idx tyE26 (fun _ => rfl) rfl rfl h11) ?_
      refine seq_run0 (stp_loadE1 tyS9 rfl (map_at h11) rfl) ?_
      refine seq_run0 (stp_sneq rfl rfl) ?_
      refine ⟨rfl, ?_⟩
      refine awp_cond _ rfl (fun h12 => ?_) (fun h12 => ?_)
      · replace H := ift h12 H
        refine awp_seq ?_
        refine awp_plain hN rfl ?_
        refine seq_run0 (stp_assign (.dat _) rfl) ?_
        refine awp_ret ?_
        replace H := retl H hq5
        cases H
        exact ⟨trivial, .inl rfl, trivial⟩
      · replace H := iff_ h12 H
        refine awp_skip ?_
        refine awp_plain hN rfl ?_
        refine seq_run0 (stp_add rfl rfl (by omega)) ?_
        refine seq_run0 (stp_move (.dat _) rfl) ?_
        exact ⟨_, backl H, ⟨rfl, rfl, rfl, rfl, trivial⟩, trivial⟩
theorem k_token_Encode (s1 : Bs) (r : (Bs)) (H : m_token_Encode s1 = some r) : Fn Tryz.prog 44 [vstr s1] (resOf [vstr r]) := by
  refine ⟨by kernel_rfl, pure_of (us := [vstr r]) Tryz.func44 rfl rfl rfl rfl fun X hN => ?_⟩
  unfold m_token_Encode at H
  refine awp_seq ?_
  refine awp_plain hN rfl ?_
  refine seq_run0 (stp_assign (.dat _) rfl) ?_
  refine awp_seq ?_
  refine awp_plain hN rfl ?_
  refine seq_run0 (stp_assign (.dat _) rfl) ?_
  refine awp_joinE (ι := (List Int)) (fun i => [(3, .row 1 i.length)]) (fun i => [(1, .row 5 1 (List.map C_uint8 i))]) (fun i => token_Encode_J1 i = some r) (fun i => rfl) ?_ ?_
  · skip
    refine awp_block ?_
    refine awp_nilrow 3 1 5 1 rfl rfl rfl ?_
    refine awp_iter (fun (s : Bs × (List Int)) => [(0, .dat (vstr s.1)), (3, .row 1 s.2.length)]) (fun (s : Bs × (List Int)) => [(1, .row 5 1 (List.map C_uint8 s.2))]) (s1, []) H ⟨rfl, congrArg (Slot.row 1) (by simp), trivial⟩ ⟨rfl, trivial⟩ (fun _ => rfl) ?_
    rintro ⟨s2, l3⟩ q4 H hq4
    replace H : token_Encode_L2 s2 l3 = some q4 := H
    unfold token_Encode_L2 at H
    refine awp_seq ?_
    refine awp_seq ?_
    refine awp_plain hN rfl ?_
    refine seq_run0 (stp_move (.dat _) rfl) ?_
    refine seq_run0 (stp_len_str tyU9 rfl) ?_
    refine seq_run0 (stp_gtr rfl rfl) ?_
    refine awp_cond _ rfl (fun h5 => ?_) (fun h5 => ?_)
    · replace H := ift h5 H
      refine awp_skip ?_
      refine awp_block ?_
      refine awp_seq ?_
      refine awp_plain hN rfl ?_
      refine seq_run0 (stp_move (.dat _) rfl) ?_
      refine seq_run0 (stp_len_str tyU9 rfl) ?_
      refine seq_run0 (stp_min rfl rfl) ?_
      refine seq_run0 (stp_assign (.dat _) rfl) ?_
      refine awp_seq ?_
      refine awp_plain hN rfl ?_
      refine seq_run0 (stp_assign (.dat _) rfl) ?_
      refine awp_seq ?_
      refine awp_seq ?_
      refine awp_plain hN rfl ?_
      refine seq_run0 (stp_move (.dat _) rfl) ?_
      refine awp_block ?_
      obtain ⟨h9, H⟩ := gif H
      refine awp_rng (fun (k7 : Nat) (s : Int) => [(0, .dat (vstr s2)), (3, .row 1 l3.length), (4, .dat (vint (min 3 (s2.length : Int)))), (5, .dat (vint s)), (14, .dat (vint (k7 : Int)))]) (fun (k7 : Nat) (s : Int) => [(1, .row 5 1 (List.map C_uint8 l3))]) 0 H ⟨rfl, rfl, rfl, rfl, rfl, trivial⟩ ⟨rfl, trivial⟩ (fun _ _ => rfl) ?_ ?_
      · rintro x6 H
        replace H : token_Encode_E3 s2 l3 x6 = some q4 := H
        unfold token_Encode_E3 at H
        refine awp_seq ?_
        refine awp_plain hN rfl ?_
        refine seq_run0 (stp_lss rfl rfl) ?_
        refine awp_seq ?_
        refine awp_cond _ rfl (fun h => (lt_t h).elim) (fun h => ?_)
        refine awp_exit ?_
        refine awp_seq ?_
        refine awp_seq ?_
        refine awp_plain hN rfl ?_
        refine seq_run0 (stp_move (.dat _) rfl) ?_
        refine seq_run0 (stp_wrap _ rfl rfl (.inl ⟨rfl, rfl⟩)) ?_
        refine seq_run0 (stp_move (.dat _) rfl) ?_
        refine awp_block ?_
        obtain ⟨h13, H⟩ := gif H
        refine awp_rng (fun (k11 : Nat) (s : (List Int)) => [(0, .dat (vstr s2)), (3, .row 1 s.length), (4, .dat (vint (min 3 (s2.length : Int)))), (5, .dat (vint x6)), (30, .dat (vint (wr ((min 3 (s2.length : Int)) + 1)))), (31, .dat (vint (k11 : Int)))]) (fun (k11 : Nat) (s : (List Int)) => [(1, .row 5 1 (List.map C_uint8 s))]) l3 H ⟨rfl, rfl, rfl, rfl, rfl, rfl, trivial⟩ ⟨rfl, trivial⟩ (fun _ _ => rfl) ?_ ?_
        · rintro l10 H
          replace H : token_Encode_E4 s2 l10 = some q4 := H
          unfold token_Encode_E4 at H
          refine awp_seq ?_
          refine awp_plain hN rfl ?_
          refine seq_run0 (stp_lss rfl rfl) ?_
          refine awp_seq ?_
          refine awp_cond _ rfl (fun h => (lt_tI h).elim) (fun h => ?_)
          refine awp_exit ?_
          refine awp_plain hN rfl ?_
          refine seq_run0 (stp_move (.dat _) rfl) ?_
          refine seq_run0 (stp_move (.dat _) rfl) ?_
          obtain ⟨l14, h15, H⟩ := bnd H
          refine seq_run0 (t_subS tyU9 rfl rfl rfl h15) ?_
          refine seq_run0 (stp_assign (.dat _) rfl) ?_
          exact ⟨_, backl H, ⟨rfl, rfl, trivial⟩, ⟨rfl, trivial⟩⟩
        · rintro k11 l10 q12 h16 H hq12
          replace H : token_Encode_L4 x6 k11 l10 = some q12 := H
          unfold token_Encode_L4 at H
          refine awp_seq ?_
          refine awp_plain hN rfl ?_
          refine seq_run0 (stp_lss rfl rfl) ?_
          refine awp_seq ?_
          refine awp_cond _ rfl (fun h => ?_) (fun h => (lt_fI h16 h).elim)
          refine awp_skip ?_
          refine awp_seq ?_
          refine awp_block ?_
          refine awp_seq ?_
          refine awp_plain hN rfl ?_
          refine seq_run0 (stp_move (.dat _) rfl) ?_
          refine seq_run0 (stp_assign (.dat _) rfl) ?_
          refine awp_plain hN rfl ?_
          refine seq_run0 (stp_move (.row _ _) rfl) ?_
          refine seq_run0 (stp_move (.dat _) rfl) ?_
          refine seq_run0 (stp_move (.dat _) rfl) ?_
          refine seq_run0 (stp_wrap _ rfl rfl (.inr (.inr ⟨rfl, rfl⟩))) ?_
          refine seq_run0 (stp_wrap _ rfl rfl (.inr (.inl ⟨rfl, rfl⟩))) ?_
          obtain ⟨h17, H⟩ := gif H
          refine seq_run0 (stp_dat (stp_shr rfl rfl h17) rfl) ?_
          refine seq_run0 (stp_dat (stp_and rfl rfl) rfl) ?_
          obtain ⟨x18, h19, H⟩ := bnd H
          refine seq_run0 (t_byteI tyU9 rfl rfl h19) ?_
          refine seq_run0 (stp_dat (u' := vlst (List.map C_uint8 [(x18.toNat : Int)])) (stp_lit [[_]] tyL82 ⟨rfl, .inl ⟨_, rfl, rfl, rfl⟩, rfl, trivial⟩ rfl rfl) rfl) ?_
          obtain ⟨h20, H⟩ := gif H
          refine seq_run2 (t_app tyL82 (fun _ => rfl) rfl rfl rfl ⟨by simp, by simpa using h20⟩ rfl) rfl ?_
          refine seq_run0 (stp_assign (.row _ _) rfl) ?_
          refine awp_plain hN rfl ?_
          refine seq_run0 (stp_add rfl rfl (by omega)) ?_
          refine seq_run0 (stp_move (.dat _) rfl) ?_
          exact ⟨_, backl H, ⟨rfl, rfl, rfl, rfl, rfl, rfl, trivial⟩, ⟨rfl, trivial⟩⟩
      · rintro k7 x6 q8 h21 H hq8
        replace H : token_Encode_L3 s2 k7 x6 = some q8 := H
        unfold token_Encode_L3 at H
        refine awp_seq ?_
        refine awp_plain hN rfl ?_
        refine seq_run0 (stp_lss rfl rfl) ?_
        refine awp_seq ?_
        refine awp_cond _ rfl (fun h => ?_) (fun h => (lt_f h21 h).elim)
        refine awp_skip ?_
        refine awp_joinE (ι := Int) (fun i => [(0, .dat (vstr s2)), (3, .row 1 l3.length), (4, .dat (vint (min 3 (s2.length : Int)))), (5, .dat (vint i)), (14, .dat (vint (k7 : Int)))]) (fun i => [(1, .row 5 1 (List.map C_uint8 l3))]) (fun i => token_Encode_J5 i = some q8) (fun i => rfl) ?_ ?_
        · skip
          refine awp_block ?_
          refine awp_seq ?_
          refine awp_plain hN rfl ?_
          refine seq_run0 (stp_move (.dat _) rfl) ?_
          refine seq_run0 (stp_assign (.dat _) rfl) ?_
          refine awp_seq ?_
          refine awp_plain hN rfl ?_
          refine seq_run0 (stp_move (.dat _) rfl) ?_
          refine seq_run0 (stp_dat (stp_shl rfl rfl (by decide)) rfl) ?_
          refine seq_run0 (stp_assign (.dat _) rfl) ?_
          refine awp_seq ?_
          refine awp_plain hN rfl ?_
          refine seq_run0 (stp_move (.dat _) rfl) ?_
          refine seq_run0 (stp_move (.dat _) rfl) ?_
          refine seq_run0 (stp_lss rfl rfl) ?_
          refine awp_cond _ rfl (fun h22 => ?_) (fun h22 => ?_)
          · replace H := ift h22 H
            refine awp_plain hN rfl ?_
            refine seq_run0 (stp_move (.dat _) rfl) ?_
            refine seq_run0 (stp_move (.dat _) rfl) ?_
            refine seq_run0 (stp_move (.dat _) rfl) ?_
            obtain ⟨x23, h24, H⟩ := bnd H
            refine seq_run0 (t_byte tyU9 rfl rfl h24) ?_
            refine seq_run0 (stp_conv tyU5 tyU3 rfl) ?_
            refine seq_run0 (stp_dat (stp_or rfl rfl) rfl) ?_
            refine seq_run0 (stp_assign (.dat _) rfl) ?_
            exact ⟨(or_ .i64 (shl_ .i64 x6 8) (IntKind.wrap .i64 (x23.toNat : Int))), H, ⟨rfl, rfl, rfl, rfl, rfl, trivial⟩, ⟨rfl, trivial⟩⟩
          · replace H := iff_ h22 H
            refine awp_skip ?_
            exact ⟨(shl_ .i64 x6 8), H, ⟨rfl, rfl, rfl, rfl, rfl, trivial⟩, ⟨rfl, trivial⟩⟩
        · rintro x25 H
          replace H : token_Encode_J5 x25 = some q8 := H
          unfold token_Encode_J5 at H
          refine awp_plain hN rfl ?_
          refine seq_run0 (stp_add rfl rfl (by omega)) ?_
          refine seq_run0 (stp_move (.dat _) rfl) ?_
          exact ⟨_, backl H, ⟨rfl, rfl, rfl, rfl, rfl, trivial⟩, ⟨rfl, trivial⟩⟩
    · replace H := iff_ h5 H
      refine awp_exit ?_
      replace H := outl H hq4
      exact ⟨l3, H, ⟨rfl, trivial⟩, ⟨rfl, trivial⟩⟩
  · rintro out26 H
    replace H : token_Encode_J1 out26 = some r := H
    unfold token_Encode_J1 at H
    refine awp_seq ?_
    refine t_freeze 3 1 rfl rfl rfl ?_
    refine awp_plain hN rfl ?_
    refine seq_run0 (stp_move (.dat _) rfl) ?_
    refine seq_run0 (stp_convB (C := C_uint8) tyU82 tyU5 tyU9 (fun _ => rfl) rfl) ?_
    refine seq_run0 (stp_assign (.dat _) rfl) ?_
    refine awp_ret ?_
    cases H
    exact ⟨trivial, .inl rfl, trivial⟩
theorem k_gatelaw2_signed  (r : (Bool)) (H : m_gatelaw2_signed  = some r) : Fn Tryz.prog 16 [] (resOf [vbool r]) := by
  refine ⟨by kernel_rfl, pure_of (us := [vbool r]) Tryz.func16 rfl rfl rfl rfl fun X hN => ?_⟩
  unfold m_gatelaw2_signed at H
  refine awp_seq ?_
  refine awp_plain hN rfl ?_
  refine seq_run0 (stp_assign (.dat _) rfl) ?_
  refine awp_seq ?_
  refine awp_plain hN rfl ?_
  obtain ⟨r1, h2, H⟩ := bnd H
  refine seq_run0 (stp_call (k_token_Encode [97, 98] r1 h2) ⟨.inl rfl, trivial⟩) ?_
  refine seq_run0 (stp_seql rfl rfl) ?_
  refine seq_run0 (stp_assign (.dat _) rfl) ?_
  refine awp_ret ?_
  cases H
  exact ⟨trivial, .inl rfl, trivial⟩
theorem k_gatelaw2_ScopesCover (v1 : (List Int)) (r : (Bool)) (H : m_gatelaw2_ScopesCover v1 = some r) : Fn Tryz.prog 3 [vlst (List.map C_int v1)] (resOf [vbool r]) := by
  refine ⟨by kernel_rfl, pure_of (us := [vbool r]) Tryz.func3 rfl rfl rfl rfl fun X hN => ?_⟩
  unfold m_gatelaw2_ScopesCover at H
  refine awp_seq ?_
  refine awp_plain hN rfl ?_
  refine seq_run0 (stp_assign (.dat _) rfl) ?_
  refine awp_seq ?_
  refine awp_plain hN rfl ?_
  refine seq_run0 (stp_move (.dat _) rfl) ?_
  refine seq_run0 (stp_dat (u' := vagg (C_gatemake_Stream (S_gatemake_Stream.mk v1 0))) (stp_build [(0, [vlst (List.map C_int v1)])] tyZ25 tyP25 rfl ⟨rfl, .inl ⟨_, rfl, rfl, rfl⟩, rfl, trivial⟩) rfl) ?_
  refine seq_run2 (stp_boxA 1 rfl) rfl ?_
  refine seq_run0 (stp_assign (.ptr _ _) rfl) ?_
  refine awp_seq ?_
  refine awp_plain hN rfl ?_
  refine seq_run0 (stp_move (.ptr _ _) rfl) ?_
  obtain ⟨r2, h3, H⟩ := bnd H
  refine seq_run2 (stp_imp (k_gatemake_Stream_Scopes (S_gatemake_Stream.mk v1 0) r2 h3) rfl trivial rfl) rfl ?_
  refine seq_run0 (stp_move (.ptr _ _) rfl) ?_
  obtain ⟨r4, h5, H⟩ := bnd H
  refine seq_run2 (stp_imp (k_gatemake_Stream_Scopes r2.2 r4 h5) rfl trivial rfl) rfl ?_
  refine seq_run0 (stp_assign (.dat _) rfl) ?_
  refine seq_run0 (stp_assign (.dat _) rfl) ?_
  refine awp_seq ?_
  refine awp_plain hN rfl ?_
  refine seq_run0 (stp_move (.dat _) rfl) ?_
  refine seq_run0 (stp_move (.dat _) rfl) ?_
  obtain ⟨r6, h7, H⟩ := bnd H
  refine seq_run0 (stp_call (k_token_Covers r2.1 r4.1 r6 h7) ⟨.inl rfl, .inl rfl, trivial⟩) ?_
  refine seq_run0 (stp_move (.dat _) rfl) ?_
  refine seq_run0 (stp_ext rfl rfl) ?_
  refine seq_run0 (stp_ext rfl rfl) ?_
  refine seq_run0 (stp_assign (.dat _) rfl) ?_
  refine seq_run0 (stp_assign (.dat _) rfl) ?_
  refine awp_seq ?_
  refine awp_plain hN rfl ?_
  refine seq_run0 (stp_move (.dat _) rfl) ?_
  obtain ⟨r8, h9, H⟩ := bnd H
  refine seq_run0 (stp_call (k_token_LeastScopes r2.1 r8 h9) ⟨.inl rfl, trivial⟩) ?_
  refine seq_run0 (stp_move (.dat _) rfl) ?_
  refine seq_run0 (stp_ext rfl rfl) ?_
  refine seq_run0 (stp_ext rfl rfl) ?_
  refine seq_run0 (stp_assign (.dat _) rfl) ?_
  refine seq_run0 (stp_assign (.dat _) rfl) ?_
  refine awp_seq ?_
  refine awp_plain hN rfl ?_
  refine seq_run0 (stp_move (.dat _) rfl) ?_
  refine seq_run0 (stp_move (.dat _) rfl) ?_
  obtain ⟨r10, h11, H⟩ := bnd H
  refine seq_run0 (stp_call (k_token_Meet r2.1 r4.1 r10 h11) ⟨.inl rfl, .inl rfl, trivial⟩) ?_
  refine seq_run0 (stp_move (.dat _) rfl) ?_
  refine seq_run0 (stp_ext rfl rfl) ?_
  refine seq_run0 (stp_ext rfl rfl) ?_
  refine seq_run0 (stp_assign (.dat _) rfl) ?_
  refine seq_run0 (stp_assign (.dat _) rfl) ?_
  refine awp_seq ?_
  refine awp_plain hN rfl ?_
  refine seq_run0 (stp_move (.dat _) rfl) ?_
  obtain ⟨r12, h13, H⟩ := bnd H
  refine seq_run0 (stp_call (k_gateref2_ScopesFault r2.1 r12 h13) ⟨.inl rfl, trivial⟩) ?_
  refine seq_run0 (stp_move (.dat _) rfl) ?_
  obtain ⟨r14, h15, H⟩ := bnd H
  refine seq_run0 (stp_call (k_gateref2_ScopesFault r2.1 r14 h15) ⟨.inl rfl, trivial⟩) ?_
  refine seq_run0 (stp_move (.dat _) rfl) ?_
  obtain ⟨r16, h17, H⟩ := bnd H
  refine seq_run0 (stp_call (k_gateref2_ScopesFault r4.1 r16 h17) ⟨.inl rfl, trivial⟩) ?_
  refine seq_run0 (stp_dat (u' := vlst (List.map C_api_Errno [r14, r16])) (stp_lit [[_], [_]] tyL60 ⟨rfl, .inl ⟨_, rfl, rfl, rfl⟩, rfl, rfl, .inl ⟨_, rfl, rfl, rfl⟩, rfl, trivial⟩ rfl rfl) rfl) ?_
  obtain ⟨r18, h19, H⟩ := bnd H
  refine seq_run0 (stp_call (k_gatelaw2_errs [r14, r16] r18 h19) ⟨.inl rfl, trivial⟩) ?_
  refine seq_run0 (stp_assign (.dat _) rfl) ?_
  refine seq_run0 (stp_assign (.dat _) rfl) ?_
  refine awp_seq ?_
  refine awp_joinE (ι := Bool) (fun i => [(4, .dat (vlst (List.map C_string r2.1))), (5, .dat (vlst (List.map C_string r4.1))), (8, .dat (vlst (List.map C_string r8.1))), (10, .dat (vlst (List.map C_string r10.1))), (12, .dat (vint r12)), (13, .dat (vint r18)), (77, .dat (vbool i))]) (fun i => []) (fun i => gatelaw2_ScopesCover_J1 r2 r4 r8 r10 r12 r18 i = some r) (fun i => rfl) ?_ ?_
  · skip
    refine awp_plain hN rfl ?_
    refine seq_run0 (stp_move (.dat _) rfl) ?_
    obtain ⟨r20, h21, H⟩ := bnd H
    refine seq_run0 (stp_call (k_token_CheckScopes r2.1 r20 h21) ⟨.inl rfl, trivial⟩) ?_
    refine seq_run0 (stp_move (.dat _) rfl) ?_
    refine seq_run0 (stp_neq rfl rfl) ?_
    refine seq_run0 (stp_move (.dat _) rfl) ?_
    refine seq_split (j := 4) rfl rfl (fun h22 => ?_) (fun h22 => ?_) rfl
    · have h23 := un3 h22
      replace H := iff_ h23 H
      refine seq_g0 rfl rfl h22 (stp_move (.dat _) rfl) ?_
      refine seq_g0 rfl rfl h22 (stp_move (.dat _) rfl) ?_
      refine seq_g0 rfl rfl h22 (stp_neq rfl rfl) ?_
      refine seq_run0 (stp_pick_f rfl (bFF h23) rfl) ?_
      refine seq_run0 (stp_move (.dat _) rfl) ?_
      refine seq_split (j := 9) rfl rfl (fun h24 => ?_) (fun h24 => ?_) rfl
      · have h25 := un3 h24
        replace H := iff_ h25 H
        refine seq_g0 rfl rfl h24 (stp_move (.dat _) rfl) ?_
        refine seq_g0 rfl rfl h24 (stp_move (.dat _) rfl) ?_
        refine seq_g0 rfl rfl h24 (stp_neq rfl rfl) ?_
        refine seq_run0 (stp_pick_f rfl (bFF h25) rfl) ?_
        refine seq_run0 (stp_move (.dat _) rfl) ?_
        refine seq_split (j := 14) rfl rfl (fun h26 => ?_) (fun h26 => ?_) rfl
        · have h27 := un3 h26
          replace H := iff_ h27 H
          refine seq_g0 rfl rfl h26 (stp_move (.dat _) rfl) ?_
          refine seq_g0 rfl rfl h26 (stp_move (.dat _) rfl) ?_
          refine seq_g0 rfl rfl h26 (stp_neq rfl rfl) ?_
          refine seq_run0 (stp_pick_f rfl (bFF h27) rfl) ?_
          refine seq_run0 (stp_move (.dat _) rfl) ?_
          refine seq_split (j := 19) rfl rfl (fun h28 => ?_) (fun h28 => ?_) rfl
          · have h29 := un3 h28
            replace H := iff_ h29 H
            refine seq_g0 rfl rfl h28 (stp_move (.dat _) rfl) ?_
            refine seq_g0 rfl rfl h28 (stp_move (.dat _) rfl) ?_
            refine seq_g0 rfl rfl h28 (stp_eql rfl rfl) ?_
            refine seq_g0 rfl rfl h28 (stp_move (.dat _) rfl) ?_
            refine seq_split (j := 23) rfl rfl (fun h30 => ?_) (fun h30 => ?_) rfl
            · have h31 := un1 h30
              replace H := ift h31 H
              refine seq_g0 rfl rfl h30 (stp_move (.dat _) rfl) ?_
              refine seq_g0 rfl rfl h30 (stp_move (.dat _) rfl) ?_
              obtain ⟨r32, h33, H⟩ := bnd H
              refine seq_g0 rfl rfl h30 (stp_call (k_gateref2_CoversOf r2.1 r4.1 r32 h33) ⟨.inl rfl, .inl rfl, trivial⟩) ?_
              refine seq_g0 rfl rfl h28 (stp_pick_t rfl (bTT h31) rfl) ?_
              refine seq_g0 rfl rfl h28 (stp_bneq tyU4 rfl rfl) ?_
              refine seq_run0 (stp_pick_f rfl (bFF h29) rfl) ?_
              exact ⟨(r6.1 != r32), H, ⟨rfl, rfl, rfl, rfl, rfl, rfl, rfl, trivial⟩, trivial⟩
            · have h34 := un2 h30
              replace H := iff_ h34 H
              refine seq_skip rfl rfl h30 ?_
              refine seq_skip rfl rfl h30 ?_
              refine seq_skip rfl rfl h30 ?_
              refine seq_g0 rfl rfl h28 (stp_pick_f rfl (bFF h34) rfl) ?_
              refine seq_g0 rfl rfl h28 (stp_bneq tyU4 rfl rfl) ?_
              refine seq_run0 (stp_pick_f rfl (bFF h29) rfl) ?_
              exact ⟨(r6.1 != false), H, ⟨rfl, rfl, rfl, rfl, rfl, rfl, rfl, trivial⟩, trivial⟩
          · have h35 := un4 h28
            replace H := ift h35 H
            refine seq_skip rfl rfl h28 ?_
            refine seq_skip rfl rfl h28 ?_
            refine seq_skip rfl rfl h28 ?_
            refine seq_skip rfl rfl h28 ?_
            refine seq_skipU rfl rfl ?_
            refine seq_skipU rfl rfl ?_
            refine seq_skipU rfl rfl ?_
            refine seq_skip rfl rfl h28 ?_
            refine seq_skip rfl rfl h28 ?_
            refine seq_run0 (stp_pick_t rfl (bTT h35) rfl) ?_
            exact ⟨true, H, ⟨rfl, rfl, rfl, rfl, rfl, rfl, rfl, trivial⟩, trivial⟩
        · have h36 := un4 h26
          replace H := ift h36 H
          refine seq_skip rfl rfl h26 ?_
          refine seq_skip rfl rfl h26 ?_
          refine seq_skip rfl rfl h26 ?_
          refine seq_run0 (stp_pick_t rfl (bTT h36) rfl) ?_
          refine seq_run0 (stp_move (.dat _) rfl) ?_
          refine seq_skip rfl rfl rfl ?_
          refine seq_skip rfl rfl rfl ?_
          refine seq_skip rfl rfl rfl ?_
          refine seq_skip rfl rfl rfl ?_
          refine seq_skipU rfl rfl ?_
          refine seq_skipU rfl rfl ?_
          refine seq_skipU rfl rfl ?_
          refine seq_skip rfl rfl rfl ?_
          refine seq_skip rfl rfl rfl ?_
          refine seq_run0 (stp_pick_t rfl rfl rfl) ?_
          exact ⟨true, H, ⟨rfl, rfl, rfl, rfl, rfl, rfl, rfl, trivial⟩, trivial⟩
      · have h37 := un4 h24
        replace H := ift h37 H
        refine seq_skip rfl rfl h24 ?_
        refine seq_skip rfl rfl h24 ?_
        refine seq_skip rfl rfl h24 ?_
        refine seq_run0 (stp_pick_t rfl (bTT h37) rfl) ?_
        refine seq_run0 (stp_move (.dat _) rfl) ?_
        refine seq_skip rfl rfl rfl ?_
        refine seq_skip rfl rfl rfl ?_
        refine seq_skip rfl rfl rfl ?_
        refine seq_run0 (stp_pick_t rfl rfl rfl) ?_
        refine seq_run0 (stp_move (.dat _) rfl) ?_
        refine seq_skip rfl rfl rfl ?_
        refine seq_skip rfl rfl rfl ?_
        refine seq_skip rfl rfl rfl ?_
        refine seq_skip rfl rfl rfl ?_
        refine seq_skipU rfl rfl ?_
        refine seq_skipU rfl rfl ?_
        refine seq_skipU rfl rfl ?_
        refine seq_skip rfl rfl rfl ?_
        refine seq_skip rfl rfl rfl ?_
        refine seq_run0 (stp_pick_t rfl rfl rfl) ?_
        exact ⟨true, H, ⟨rfl, rfl, rfl, rfl, rfl, rfl, rfl, trivial⟩, trivial⟩
    · have h38 := un4 h22
      replace H := ift h38 H
      refine seq_skip rfl rfl h22 ?_
      refine seq_skip rfl rfl h22 ?_
      refine seq_skip rfl rfl h22 ?_
      refine seq_run0 (stp_pick_t rfl (bTT h38) rfl) ?_
      refine seq_run0 (stp_move (.dat _) rfl) ?_
      refine seq_skip rfl rfl rfl ?_
      refine seq_skip rfl rfl rfl ?_
      refine seq_skip rfl rfl rfl ?_
      refine seq_run0 (stp_pick_t rfl rfl rfl) ?_
      refine seq_run0 (stp_move (.dat _) rfl) ?_
      refine seq_skip rfl rfl rfl ?_
      refine seq_skip rfl rfl rfl ?_
      refine seq_skip rfl rfl rfl ?_
      refine seq_run0 (stp_pick_t rfl rfl rfl) ?_
      refine seq_run0 (stp_move (.dat _) rfl) ?_
      refine seq_skip rfl rfl rfl ?_
      refine seq_skip rfl rfl rfl ?_
      refine seq_skip rfl rfl rfl ?_
      refine seq_skip rfl rfl rfl ?_
      refine seq_skipU rfl rfl ?_
      refine seq_skipU rfl rfl ?_
      refine seq_skipU rfl rfl ?_
      refine seq_skip rfl rfl rfl ?_
      refine seq_skip rfl rfl rfl ?_
      refine seq_run0 (stp_pick_t rfl rfl rfl) ?_
      exact ⟨true, H, ⟨rfl, rfl, rfl, rfl, rfl, rfl, rfl, trivial⟩, trivial⟩
  · rintro v39 H
    replace H : gatelaw2_ScopesCover_J1 r2 r4 r8 r10 r12 r18 v39 = some r := H
    unfold gatelaw2_ScopesCover_J1 at H
    refine awp_cond _ rfl (fun h40 => ?_) (fun h40 => ?_)
    · replace H := ift h40 H
      refine awp_seq ?_
      refine awp_plain hN rfl ?_
      refine seq_run0 (stp_assign (.dat _) rfl) ?_
      refine awp_ret ?_
      cases H
      exact ⟨trivial, .inl rfl, trivial⟩
    · replace H := iff_ h40 H
      refine awp_skip ?_
      refine awp_seq ?_
      refine awp_plain hN rfl ?_
      refine seq_run0 (stp_assign (.dat _) rfl) ?_
      refine seq_run0 (stp_assign (.dat _) rfl) ?_
      refine awp_joinW (ι := (List Bs)) (fun i => [(4, .dat (vlst (List.map C_string r2.1))), (5, .dat (vlst (List.map C_string r4.1))), (8, .dat (vlst (List.map C_string r8.1))), (10, .dat (vlst (List.map C_string r10.1))), (13, .dat (vint r18)), (14, .dat (vlst (List.map C_string i))), (15, .dat (vnil))]) (fun i => []) (fun i => gatelaw2_ScopesCover_J2 r2 r4 r8 r10 r18 i = some r) (fun i => rfl) (fun i => rfl) ?_ ?_
      · skip
        refine awp_seq ?_
        refine awp_plain hN rfl ?_
        refine seq_run0 (stp_move (.dat _) rfl) ?_
        refine seq_run0 (stp_eql rfl rfl) ?_
        refine awp_cond _ rfl (fun h41 => ?_) (fun h41 => ?_)
        · replace H := ift h41 H
          refine awp_plain hN rfl ?_
          refine seq_run0 (stp_move (.dat _) rfl) ?_
          obtain ⟨r42, h43, H⟩ := bnd H
          refine seq_run0 (stp_call (k_gateref2_LeastOf r2.1 r42 h43) ⟨.inl rfl, trivial⟩) ?_
          refine seq_run0 (stp_assign (.dat _) rfl) ?_
          exact ⟨r42, H, ⟨.inl rfl, .inl rfl, .inl rfl, .inl rfl, .inl rfl, .inl rfl, .inl rfl, trivial⟩, trivial⟩
        · replace H := iff_ h41 H
          refine awp_skip ?_
          exact ⟨[], H, ⟨.inl rfl, .inl rfl, .inl rfl, .inl rfl, .inl rfl, .inr ⟨rfl, rfl⟩, .inl rfl, trivial⟩, trivial⟩
      · rintro v44 H
        replace H : gatelaw2_ScopesCover_J2 r2 r4 r8 r10 r18 v44 = some r := H
        unfold gatelaw2_ScopesCover_J2 at H
        refine awp_joinW (ι := (List Bs)) (fun i => [(8, .dat (vlst (List.map C_string r8.1))), (10, .dat (vlst (List.map C_string r10.1))), (14, .dat (vlst (List.map C_string v44))), (15, .dat (vlst (List.map C_string i)))]) (fun i => []) (fun i => gatelaw2_ScopesCover_J3 r8 r10 v44 i = some r) (fun i => rfl) (fun i => rfl) ?_ ?_
        · skip
          refine awp_seq ?_
          refine awp_plain hN rfl ?_
          refine seq_run0 (stp_move (.dat _) rfl) ?_
          refine seq_run0 (stp_eql rfl rfl) ?_
          refine awp_cond _ rfl (fun h45 => ?_) (fun h45 => ?_)
          · replace H := ift h45 H
            refine awp_plain hN rfl ?_
            refine seq_run0 (stp_move (.dat _) rfl) ?_
            refine seq_run0 (stp_move (.dat _) rfl) ?_
            obtain ⟨r46, h47, H⟩ := bnd H
            refine seq_run0 (stp_call (k_gateref2_MeetOf r2.1 r4.1 r46 h47) ⟨.inl rfl, .inl rfl, trivial⟩) ?_
            refine seq_run0 (stp_assign (.dat _) rfl) ?_
            exact ⟨r46, H, ⟨.inl rfl, .inl rfl, .inl rfl, .inl rfl, trivial⟩, trivial⟩
          · replace H := iff_ h45 H
            refine awp_skip ?_
            exact ⟨[], H, ⟨.inl rfl, .inl rfl, .inl rfl, .inr ⟨rfl, rfl⟩, trivial⟩, trivial⟩
        · rintro v48 H
          replace H : gatelaw2_ScopesCover_J3 r8 r10 v44 v48 = some r := H
          unfold gatelaw2_ScopesCover_J3 at H
          refine awp_joinE (ι := Bool) (fun i => [(2, .dat (vbool i))]) (fun i => []) (fun i => gatelaw2_ScopesCover_J4 i = some r) (fun i => rfl) ?_ ?_
          · skip
            refine awp_plain hN rfl ?_
            refine seq_run0 (stp_move (.dat _) rfl) ?_
            refine seq_run0 (stp_move (.dat _) rfl) ?_
            obtain ⟨r49, h50, H⟩ := bnd H
            refine seq_run0 (stp_call (k_slices_Equal_L_string_string_ r8.1 v44 r49 h50) ⟨.inl rfl, .inl rfl, trivial⟩) ?_
            refine seq_run0 (stp_move (.dat _) rfl) ?_
            refine seq_split (j := 3) rfl rfl (fun h51 => ?_) (fun h51 => ?_) rfl
            · have h52 := un1 h51
              replace H := ift h52 H
              refine seq_g0 rfl rfl h51 (stp_move (.dat _) rfl) ?_
              refine seq_g0 rfl rfl h51 (stp_move (.dat _) rfl) ?_
              obtain ⟨r53, h54, H⟩ := bnd H
              refine seq_g0 rfl rfl h51 (stp_call (k_slices_Equal_L_string_string_ r10.1 v48 r53 h54) ⟨.inl rfl, .inl rfl, trivial⟩) ?_
              refine seq_run0 (stp_pick_t rfl (bTT h52) rfl) ?_
              refine seq_run0 (stp_move (.dat _) rfl) ?_
              refine seq_split (j := 8) rfl rfl (fun h55 => ?_) (fun h55 => ?_) rfl
              · have h56 := un1 h55
                replace H := ift h56 H
                obtain ⟨r57, h58, H⟩ := bnd H
                refine seq_g0 rfl rfl h55 (stp_call (k_gatelaw2_signed  r57 h58) trivial) ?_
                refine seq_run0 (stp_pick_t rfl (bTT h56) rfl) ?_
                refine seq_run0 (stp_assign (.dat _) rfl) ?_
                exact ⟨r57, H, ⟨rfl, trivial⟩, trivial⟩
              · have h59 := un2 h55
                replace H := iff_ h59 H
                refine seq_skip rfl rfl h55 ?_
                refine seq_run0 (stp_pick_f rfl (bFF h59) rfl) ?_
                refine seq_run0 (stp_assign (.dat _) rfl) ?_
                exact ⟨false, H, ⟨rfl, trivial⟩, trivial⟩
            · have h60 := un2 h51
              replace H := iff_ h60 H
              refine seq_skip rfl rfl h51 ?_
              refine seq_skip rfl rfl h51 ?_
              refine seq_skip rfl rfl h51 ?_
              refine seq_run0 (stp_pick_f rfl (bFF h60) rfl) ?_
              refine seq_run0 (stp_move (.dat _) rfl) ?_
              refine seq_skip rfl rfl rfl ?_
              refine seq_run0 (stp_pick_f rfl rfl rfl) ?_
              refine seq_run0 (stp_assign (.dat _) rfl) ?_
              exact ⟨false, H, ⟨rfl, trivial⟩, trivial⟩
          · rintro v61 H
            replace H : gatelaw2_ScopesCover_J4 v61 = some r := H
            unfold gatelaw2_ScopesCover_J4 at H
            refine awp_ret ?_
            cases H
            exact ⟨trivial, .inl rfl, trivial⟩
end Go.Proofs.YtpeeeanmfmhlgaaGreatDoor
