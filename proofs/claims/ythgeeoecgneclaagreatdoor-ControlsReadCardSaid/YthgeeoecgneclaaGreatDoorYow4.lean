/- Walks along the models. Printed by a program. -/
import Derived.Test.YthgeeoecgneclaaGreatDoorYow3
namespace Go.Proofs.YthgeeoecgneclaaGreatDoor
open Go.RowKit
set_option linter.unusedVariables false
set_option maxRecDepth 20000
set_option maxHeartbeats 2000000
theorem k_cache_vary (a1 : S_api_Response) (r : ((List Bs) × Bool × Int)) (H : m_cache_vary a1 = some r) : Fn Tryz.prog 67 [vagg (C_api_Response a1)] (resOf [vlst (List.map C_string r.1), vbool r.2.1, vint r.2.2]) := by
  refine ⟨by kernel_rfl, pure_of (us := [vlst (List.map C_string r.1), vbool r.2.1, vint r.2.2]) Tryz.func67 rfl rfl rfl rfl fun X hN => ?_⟩
  unfold m_cache_vary at H
  refine awp_seq ?_
  refine awp_plain hN rfl ?_
  refine seq_run2 (stp_boxA 1 rfl) rfl ?_
  refine seq_run0 (stp_assign (.dat _) rfl) ?_
  refine seq_run0 (stp_assign (.dat _) rfl) ?_
  refine seq_run0 (stp_assign (.dat _) rfl) ?_
  refine awp_seq ?_
  refine awp_plain hN rfl ?_
  refine seq_run0 (stp_fldP tyF75_1 rfl) ?_
  refine seq_run1 (stp_load1 tyS26 rfl rfl) rfl ?_
  obtain ⟨r2, h3, H⟩ := bnd H
  refine seq_run0 (stp_call (k_message_Values a1.Headers [118, 97, 114, 121] r2 h3) ⟨.inl rfl, .inl rfl, trivial⟩) ?_
  obtain ⟨r4, h5, H⟩ := bnd H
  refine seq_callG (rn [(1, 2)]) [] [(1, _)] (kr_message_Parts r2 r4 h5) ⟨rfl, trivial⟩ ⟨.inl (.inl rfl), trivial⟩ trivial rfl ?_
  refine seq_run0 (stp_assign (.row _ _) rfl) ?_
  refine awp_seq ?_
  refine awp_seq ?_
  refine awp_plain hN rfl ?_
  refine seq_run0 (stp_move (.row _ _) rfl) ?_
  refine seq_run1 (t_lenR tyU46 rfl rfl) rfl ?_
  refine seq_run0 (stp_move (.dat _) rfl) ?_
  refine awp_block ?_
  obtain ⟨h9, H⟩ := gif H
  refine awp_rng (fun (k7 : Nat) (s : (List Bs)) => [(5, .row 2 s.length), (12, .row 2 s.length), (13, .dat (vint (r4.length : Int))), (14, .dat (vint (k7 : Int)))]) (fun (k7 : Nat) (s : (List Bs)) => [(2, .row 9 1 (List.map C_string s))]) r4 H ⟨rfl, rfl, rfl, rfl, trivial⟩ ⟨rfl, trivial⟩ (fun _ _ => rfl) ?_ ?_
  · rintro l6 H
    replace H : cache_vary_E1 l6 = some r := H
    unfold cache_vary_E1 at H
    refine awp_seq ?_
    refine awp_plain hN rfl ?_
    refine seq_run0 (stp_lss rfl rfl) ?_
    refine awp_seq ?_
    refine awp_cond _ rfl (fun h => (lt_t h).elim) (fun h => ?_)
    refine awp_exit ?_
    refine awp_seq ?_
    refine awp_seq ?_
    refine t_freeze 5 2 rfl rfl rfl ?_
    refine awp_plain hN rfl ?_
    refine seq_run0 (stp_move (.dat _) rfl) ?_
    obtain ⟨r10, h11, H⟩ := bnd H
    refine seq_run0 (stp_call (k_slices_Contains_L_string_string_ l6 [42] r10 h11) ⟨.inl rfl, .inl rfl, trivial⟩) ?_
    refine awp_cond _ rfl (fun h12 => ?_) (fun h12 => ?_)
    · replace H := ift h12 H
      refine awp_seq ?_
      refine awp_plain hN rfl ?_
      refine seq_run0 (stp_assign (.dat _) rfl) ?_
      refine seq_run0 (stp_assign (.dat _) rfl) ?_
      refine seq_run0 (stp_assign (.dat _) rfl) ?_
      refine awp_ret ?_
      cases H
      exact ⟨trivial, .inr ⟨rfl, rfl⟩, .inl rfl, .inl rfl, trivial⟩
    · replace H := iff_ h12 H
      refine awp_skip ?_
      refine awp_seq ?_
      refine awp_plain hN rfl ?_
      refine seq_run0 (stp_move (.dat _) rfl) ?_
      obtain ⟨r13, h14, H⟩ := bnd H
      refine seq_run0 (stp_call (k_kit_Rising l6 r13 h14) ⟨.inl rfl, trivial⟩) ?_
      refine seq_run0 (stp_assign (.dat _) rfl) ?_
      refine awp_seq ?_
      refine awp_seq ?_
      refine awp_plain hN rfl ?_
      refine seq_run0 (stp_move (.dat _) rfl) ?_
      refine seq_run0 (t_len tyU46 rfl) ?_
      refine seq_run0 (stp_gtr rfl rfl) ?_
      refine awp_cond _ rfl (fun h15 => ?_) (fun h15 => ?_)
      · replace H := ift h15 H
        refine awp_seq ?_
        refine awp_plain hN rfl ?_
        refine seq_run0 (stp_assign (.dat _) rfl) ?_
        refine seq_run0 (stp_assign (.dat _) rfl) ?_
        refine seq_run0 (stp_assign (.dat _) rfl) ?_
        refine awp_ret ?_
        cases H
        exact ⟨trivial, .inr ⟨rfl, rfl⟩, .inl rfl, .inl rfl, trivial⟩
      · replace H := iff_ h15 H
        refine awp_skip ?_
        refine awp_seq ?_
        refine awp_plain hN rfl ?_
        refine seq_run0 (stp_move (.dat _) rfl) ?_
        refine seq_run0 (stp_assign (.dat _) rfl) ?_
        refine seq_run0 (stp_assign (.dat _) rfl) ?_
        refine seq_run0 (stp_assign (.dat _) rfl) ?_
        refine awp_ret ?_
        cases H
        exact ⟨trivial, .inl rfl, .inl rfl, .inl rfl, trivial⟩
  · rintro k7 l6 q8 h16 H hq8
    replace H : cache_vary_L1 k7 l6 = some q8 := H
    unfold cache_vary_L1 at H
    refine awp_seq ?_
    refine awp_plain hN rfl ?_
    refine seq_run0 (stp_lss rfl rfl) ?_
    refine awp_seq ?_
    refine awp_cond _ rfl (fun h => ?_) (fun h => (lt_f h16 h).elim)
    refine awp_skip ?_
    refine awp_seq ?_
    refine awp_block ?_
    refine awp_seq ?_
    refine awp_plain hN rfl ?_
    refine seq_run0 (stp_move (.dat _) rfl) ?_
    obtain ⟨x17, h18, H⟩ := bnd H
    refine seq_run1 (t_idxR tyE46 rfl rfl rfl h18) rfl ?_
    refine seq_run1 (t_loadR1 tyS9 rfl rfl h18 rfl) rfl ?_
    refine seq_run0 (stp_assign (.dat _) rfl) ?_
    refine seq_run0 (stp_assign (.dat _) rfl) ?_
    refine awp_seq ?_
    refine awp_seq ?_
    refine awp_plain hN rfl ?_
    refine seq_run0 (stp_move (.dat _) rfl) ?_
    obtain ⟨r19, h20, H⟩ := bnd H
    refine seq_run0 (stp_call (k_message_IsToken x17 r19 h20) ⟨.inl rfl, trivial⟩) ?_
    refine seq_run0 (stp_not rfl) ?_
    refine awp_cond _ rfl (fun h21 => ?_) (fun h21 => ?_)
    · replace H := ift h21 H
      refine awp_seq ?_
      refine awp_plain hN rfl ?_
      refine seq_run0 (stp_assign (.dat _) rfl) ?_
      refine seq_run0 (stp_assign (.dat _) rfl) ?_
      refine seq_run0 (stp_assign (.dat _) rfl) ?_
      refine awp_ret ?_
      replace H := retl H hq8
      cases H
      exact ⟨trivial, .inr ⟨rfl, rfl⟩, .inl rfl, .inl rfl, trivial⟩
    · replace H := iff_ h21 H
      refine awp_skip ?_
      refine awp_plain hN rfl ?_
      refine seq_run0 (stp_move (.row _ _) rfl) ?_
      refine seq_run0 (stp_move (.dat _) rfl) ?_
      refine seq_run0 (stp_move (.dat _) rfl) ?_
      obtain ⟨r22, h23, H⟩ := bnd H
      refine seq_run0 (stp_call (k_strings_ToLower x17 r22 h23) ⟨.inl rfl, trivial⟩) ?_
      refine seq_run1 (t_idxR tyE46 rfl rfl rfl h18) rfl ?_
      refine seq_run2 (t_storeR r22 tyS9 rfl rfl rfl rfl h18 rfl rfl) rfl ?_
      refine awp_plain hN rfl ?_
      refine seq_run0 (stp_add rfl rfl (by omega)) ?_
      refine seq_run0 (stp_move (.dat _) rfl) ?_
      exact ⟨_, backl H, ⟨congrArg (Slot.row 2) (by simp), congrArg (Slot.row 2) (by simp), rfl, rfl, trivial⟩, ⟨rfl, trivial⟩⟩
theorem k_cache_lifetime (c1 : S_api_Control) (r : (Int)) (H : m_cache_lifetime c1 = some r) : Fn Tryz.prog 68 [vagg (C_api_Control c1)] (resOf [vint r]) := by
  refine ⟨by kernel_rfl, pure_of (us := [vint r]) Tryz.func68 rfl rfl rfl rfl fun X hN => ?_⟩
  unfold m_cache_lifetime at H
  refine awp_seq ?_
  refine awp_plain hN rfl ?_
  refine seq_run2 (stp_boxA 1 rfl) rfl ?_
  refine seq_run0 (stp_assign (.dat _) rfl) ?_
  refine awp_seq ?_
  refine awp_block ?_
  refine awp_seq ?_
  refine awp_plain hN rfl ?_
  refine seq_run0 (stp_fldP tyF34_1 rfl) ?_
  refine seq_run1 (stp_load1 tyS4 rfl rfl) rfl ?_
  refine seq_run0 (stp_assign (.dat _) rfl) ?_
  refine awp_cond _ rfl (fun h2 => ?_) (fun h2 => ?_)
  · replace H := ift h2 H
    refine awp_seq ?_
    refine awp_plain hN rfl ?_
    refine seq_run0 (stp_assign (.dat _) rfl) ?_
    refine awp_ret ?_
    cases H
    exact ⟨trivial, .inl rfl, trivial⟩
  · replace H := iff_ h2 H
    refine awp_seq ?_
    refine awp_plain hN rfl ?_
    refine seq_run0 (stp_fldP tyF34_7 rfl) ?_
    refine seq_run1 (stp_load1 tyS3 rfl rfl) rfl ?_
    refine seq_run0 (stp_neq rfl rfl) ?_
    refine seq_run0 (stp_assign (.dat _) rfl) ?_
    refine awp_cond _ rfl (fun h3 => ?_) (fun h3 => ?_)
    · replace H := ift h3 H
      refine awp_seq ?_
      refine awp_plain hN rfl ?_
      refine seq_run0 (stp_fldP tyF34_7 rfl) ?_
      refine seq_run1 (stp_load1 tyS3 rfl rfl) rfl ?_
      refine seq_run0 (stp_wrap _ rfl rfl (.inr (.inr ⟨rfl, rfl⟩))) ?_
      refine seq_run0 (stp_assign (.dat _) rfl) ?_
      refine awp_ret ?_
      cases H
      exact ⟨trivial, .inl rfl, trivial⟩
    · replace H := iff_ h3 H
      refine awp_seq ?_
      refine awp_plain hN rfl ?_
      refine seq_run0 (stp_fldP tyF34_6 rfl) ?_
      refine seq_run1 (stp_load1 tyS3 rfl rfl) rfl ?_
      refine seq_run0 (stp_neq rfl rfl) ?_
      refine seq_run0 (stp_assign (.dat _) rfl) ?_
      refine awp_cond _ rfl (fun h4 => ?_) (fun h4 => ?_)
      · replace H := ift h4 H
        refine awp_seq ?_
        refine awp_plain hN rfl ?_
        refine seq_run0 (stp_fldP tyF34_6 rfl) ?_
        refine seq_run1 (stp_load1 tyS3 rfl rfl) rfl ?_
        refine seq_run0 (stp_wrap _ rfl rfl (.inr (.inr ⟨rfl, rfl⟩))) ?_
        refine seq_run0 (stp_assign (.dat _) rfl) ?_
        refine awp_ret ?_
        cases H
        exact ⟨trivial, .inl rfl, trivial⟩
      · replace H := iff_ h4 H
        refine awp_skip ?_
        refine awp_seq ?_
        refine awp_plain hN rfl ?_
        refine seq_run0 (stp_assign (.dat _) rfl) ?_
        refine awp_ret ?_
        cases H
        exact ⟨trivial, .inl rfl, trivial⟩
theorem k_cache_Lifetime (a1 : S_api_Response) (r : (Int × Int)) (H : m_cache_Lifetime a1 = some r) : Fn Tryz.prog 43 [vagg (C_api_Response a1)] (resOf [vint r.1, vint r.2]) := by
  refine ⟨by kernel_rfl, pure_of (us := [vint r.1, vint r.2]) Tryz.func43 rfl rfl rfl rfl fun X hN => ?_⟩
  unfold m_cache_Lifetime at H
  refine awp_seq ?_
  refine awp_plain hN rfl ?_
  refine seq_run2 (stp_boxA 1 rfl) rfl ?_
  refine seq_run0 (stp_assign (.dat _) rfl) ?_
  refine seq_run0 (stp_assign (.dat _) rfl) ?_
  refine awp_seq ?_
  refine awp_seq ?_
  refine awp_plain hN rfl ?_
  refine seq_run1 (stp_loadA tyS75 rfl rfl rfl) rfl ?_
  obtain ⟨r2, h3, H⟩ := bnd H
  refine seq_run0 (stp_call (k_message_CheckResponse a1 r2 h3) ⟨.inl rfl, trivial⟩) ?_
  refine seq_run0 (stp_assign (.dat _) rfl) ?_
  refine awp_seq ?_
  refine awp_plain hN rfl ?_
  refine seq_run0 (stp_move (.dat _) rfl) ?_
  refine seq_run0 (stp_neq rfl rfl) ?_
  refine awp_cond _ rfl (fun h4 => ?_) (fun h4 => ?_)
  · replace H := ift h4 H
    refine awp_seq ?_
    refine awp_plain hN rfl ?_
    refine seq_run0 (stp_move (.dat _) rfl) ?_
    refine seq_run0 (stp_assign (.dat _) rfl) ?_
    refine seq_run0 (stp_assign (.dat _) rfl) ?_
    refine awp_ret ?_
    cases H
    exact ⟨trivial, .inl rfl, .inl rfl, trivial⟩
  · replace H := iff_ h4 H
    refine awp_skip ?_
    refine awp_seq ?_
    refine awp_plain hN rfl ?_
    refine seq_run0 (stp_fldP tyF75_1 rfl) ?_
    refine seq_run1 (stp_load1 tyS26 rfl rfl) rfl ?_
    obtain ⟨r5, h6, H⟩ := bnd H
    refine seq_run0 (stp_call (k_cache_parse a1.Headers r5 h6) ⟨.inl rfl, trivial⟩) ?_
    refine seq_run0 (stp_move (.dat _) rfl) ?_
    refine seq_run0 (stp_ext rfl rfl) ?_
    refine seq_run0 (stp_ext rfl rfl) ?_
    refine seq_run2 (stp_alloc 2 tyZ34 rfl) rfl ?_
    refine seq_run2 (stp_storeW tyS34 rfl rfl rfl rfl) rfl ?_
    refine seq_run0 (stp_assign (.dat _) rfl) ?_
    refine awp_seq ?_
    refine awp_seq ?_
    refine awp_plain hN rfl ?_
    refine seq_run0 (stp_move (.dat _) rfl) ?_
    refine seq_run0 (stp_neq rfl rfl) ?_
    refine awp_cond _ rfl (fun h7 => ?_) (fun h7 => ?_)
    · replace H := ift h7 H
      refine awp_seq ?_
      refine awp_plain hN rfl ?_
      refine seq_run0 (stp_move (.dat _) rfl) ?_
      refine seq_run0 (stp_assign (.dat _) rfl) ?_
      refine seq_run0 (stp_assign (.dat _) rfl) ?_
      refine awp_ret ?_
      cases H
      exact ⟨trivial, .inl rfl, .inl rfl, trivial⟩
    · replace H := iff_ h7 H
      refine awp_skip ?_
      refine awp_seq ?_
      refine awp_seq ?_
      refine awp_plain hN rfl ?_
      refine seq_run1 (stp_loadA tyS75 rfl rfl rfl) rfl ?_
      obtain ⟨r8, h9, H⟩ := bnd H
      refine seq_run0 (stp_call (k_cache_vary a1 r8 h9) ⟨.inl rfl, trivial⟩) ?_
      refine seq_run0 (stp_move (.dat _) rfl) ?_
      refine seq_run0 (stp_ext rfl rfl) ?_
      refine seq_run0 (stp_ext rfl rfl) ?_
      refine seq_run0 (stp_ext rfl rfl) ?_
      refine seq_run0 (stp_assign (.dat _) rfl) ?_
      refine seq_run0 (stp_assign (.dat _) rfl) ?_
      refine seq_run0 (stp_assign (.dat _) rfl) ?_
      refine awp_seq ?_
      refine awp_plain hN rfl ?_
      refine seq_run0 (stp_move (.dat _) rfl) ?_
      refine seq_run0 (stp_neq rfl rfl) ?_
      refine awp_cond _ rfl (fun h10 => ?_) (fun h10 => ?_)
      · replace H := ift h10 H
        refine awp_seq ?_
        refine awp_plain hN rfl ?_
        refine seq_run0 (stp_move (.dat _) rfl) ?_
        refine seq_run0 (stp_assign (.dat _) rfl) ?_
        refine seq_run0 (stp_assign (.dat _) rfl) ?_
        refine awp_ret ?_
        cases H
        exact ⟨trivial, .inl rfl, .inl rfl, trivial⟩
      · replace H := iff_ h10 H
        refine awp_skip ?_
        refine awp_seq ?_
        refine awp_plain hN rfl ?_
        refine seq_run1 (stp_loadA tyS34 rfl rfl rfl) rfl ?_
        obtain ⟨r11, h12, H⟩ := bnd H
        refine seq_run0 (stp_call (k_cache_lifetime r5.1 r11 h12) ⟨.inl rfl, trivial⟩) ?_
        refine seq_run0 (stp_assign (.dat _) rfl) ?_
        refine seq_run0 (stp_assign (.dat _) rfl) ?_
        refine awp_ret ?_
        cases H
        exact ⟨trivial, .inl rfl, .inl rfl, trivial⟩
theorem k_gatelaw2_kept  (r : (Bool)) (H : m_gatelaw2_kept  = some r) : Fn Tryz.prog 17 [] (resOf [vbool r]) := by
  refine ⟨by kernel_rfl, pure_of (us := [vbool r]) Tryz.func17 rfl rfl rfl rfl fun X hN => ?_⟩
  unfold m_gatelaw2_kept at H
  refine awp_seq ?_
  refine awp_plain hN rfl ?_
  refine seq_run0 (stp_assign (.dat _) rfl) ?_
  refine awp_seq ?_
  refine awp_plain hN rfl ?_
  refine seq_run0 (stp_dat (u' := vagg (C_api_Header (S_api_Header.mk [99, 97, 99, 104, 101, 45, 99, 111, 110, 116, 114, 111, 108] [109, 97, 120, 45, 97, 103, 101, 61, 50]))) (stp_build [(0, [vstr [99, 97, 99, 104, 101, 45, 99, 111, 110, 116, 114, 111, 108]]), (1, [vstr [109, 97, 120, 45, 97, 103, 101, 61, 50]])] tyZ32 tyP32 rfl ⟨rfl, .inl ⟨_, rfl, rfl, rfl⟩, rfl, rfl, .inl ⟨_, rfl, rfl, rfl⟩, rfl, trivial⟩) rfl) ?_
  refine seq_run0 (stp_dat (u' := vlst (List.map C_api_Header [(S_api_Header.mk [99, 97, 99, 104, 101, 45, 99, 111, 110, 116, 114, 111, 108] [109, 97, 120, 45, 97, 103, 101, 61, 50])])) (stp_lit [_] tyL26 ⟨rfl, .inr rfl, rfl, trivial⟩ rfl rfl) rfl) ?_
  refine seq_run0 (stp_dat (u' := vagg (C_api_Response (S_api_Response.mk 200 ([(S_api_Header.mk [99, 97, 99, 104, 101, 45, 99, 111, 110, 116, 114, 111, 108] [109, 97, 120, 45, 97, 103, 101, 61, 50])]) []))) (stp_build [(0, [vint 200]), (1, [vlst (List.map C_api_Header ([(S_api_Header.mk [99, 97, 99, 104, 101, 45, 99, 111, 110, 116, 114, 111, 108] [109, 97, 120, 45, 97, 103, 101, 61, 50])]))])] tyZ75 tyP75 rfl ⟨rfl, .inl ⟨_, rfl, rfl, rfl⟩, rfl, rfl, .inl ⟨_, rfl, rfl, rfl⟩, rfl, trivial⟩) rfl) ?_
  obtain ⟨r1, h2, H⟩ := bnd H
  refine seq_run0 (stp_call (k_cache_Lifetime (S_api_Response.mk 200 ([(S_api_Header.mk [99, 97, 99, 104, 101, 45, 99, 111, 110, 116, 114, 111, 108] [109, 97, 120, 45, 97, 103, 101, 61, 50])]) []) r1 h2) ⟨.inl rfl, trivial⟩) ?_
  refine seq_run0 (stp_move (.dat _) rfl) ?_
  refine seq_run0 (stp_ext rfl rfl) ?_
  refine seq_run0 (stp_ext rfl rfl) ?_
  refine seq_run0 (stp_assign (.dat _) rfl) ?_
  refine seq_run0 (stp_assign (.dat _) rfl) ?_
  refine awp_seq ?_
  refine awp_plain hN rfl ?_
  refine seq_run0 (stp_move (.dat _) rfl) ?_
  refine seq_run0 (stp_eql rfl rfl) ?_
  refine seq_run0 (stp_move (.dat _) rfl) ?_
  refine seq_aT rfl rfl (fun hc => stp_move (.dat _) rfl) ?_
  refine seq_aT rfl rfl (fun hc => stp_eql (cnd (c := (decide (r1.2 = 0))) hc) rfl) ?_
  refine seq_run0 (stp_pick_and rfl (fun hb => (cnd (c := (decide (r1.2 = 0))) hb)) rfl) ?_
  refine seq_run0 (stp_assign (.dat _) rfl) ?_
  refine awp_ret ?_
  cases H
  exact ⟨trivial, .inl rfl, trivial⟩
theorem k_gatemake_Stream_Words (s1 : S_gatemake_Stream) (many2 : Int) (between3 : Bs) (l4 : (List Bs)) (r : (Bs × S_gatemake_Stream)) (H : m_gatemake_Stream_Words s1 many2 between3 l4 = some r) : Imp Tryz.prog 22 25 (C_gatemake_Stream s1) [vint many2, vstr between3, vlst (List.map C_string l4)] (resOf [vstr r.1]) (C_gatemake_Stream r.2) := by
  refine imp_of (us := [vstr r.1]) (cs' := (C_gatemake_Stream r.2)) (by kernel_rfl) Tryz.func22 rfl rfl rfl rfl fun X bl hN => ?_
  unfold m_gatemake_Stream_Words at H
  refine awp_seq ?_
  refine awp_plain hN rfl ?_
  refine seq_run0 (stp_assign (.dat _) rfl) ?_
  refine awp_seq ?_
  refine awp_plain hN rfl ?_
  refine seq_run0 (stp_assign (.dat _) rfl) ?_
  refine awp_seq ?_
  refine awp_seq ?_
  refine awp_plain hN rfl ?_
  refine seq_run0 (stp_move (.dat _) rfl) ?_
  refine seq_run0 (stp_move (.dat _) rfl) ?_
  refine awp_block ?_
  refine awp_nilrow 9 1 9 1 rfl rfl rfl ?_
  obtain ⟨h10, H⟩ := gif H
  refine awp_rng (fun (k8 : Nat) (s : (List Int) × Int × (List Bs)) => [(0, .ptr 0 0), (2, .dat (vstr between3)), (3, .dat (vlst (List.map C_string l4))), (9, .row 1 s.2.2.length), (10, .dat (vint many2)), (11, .dat (vint (k8 : Int)))]) (fun (k8 : Nat) (s : (List Int) × Int × (List Bs)) => [(0, .box (some bl) 25 [.dat (vlst (List.map C_int s.1)), .dat (vint s.2.1)]), (1, .row 9 1 (List.map C_string s.2.2))]) (s1.L, s1.at_, []) H ⟨rfl, rfl, rfl, congrArg (Slot.row 1) (by simp), rfl, rfl, trivial⟩ ⟨rfl, rfl, trivial⟩ (fun _ _ => rfl) ?_ ?_
  · rintro ⟨c5, c6, l7⟩ H
    replace H : gatemake_Stream_Words_E1 between3 c5 c6 l7 = some r := H
    unfold gatemake_Stream_Words_E1 at H
    refine awp_seq ?_
    refine awp_plain hN rfl ?_
    refine seq_run0 (stp_lss rfl rfl) ?_
    refine awp_seq ?_
    refine awp_cond _ rfl (fun h => (lt_tI h).elim) (fun h => ?_)
    refine awp_exit ?_
    refine awp_seq ?_
    refine t_freeze 9 1 rfl rfl rfl ?_
    refine awp_plain hN rfl ?_
    refine seq_run0 (stp_move (.dat _) rfl) ?_
    refine seq_run0 (stp_move (.dat _) rfl) ?_
    obtain ⟨r11, h12, H⟩ := bnd H
    refine seq_run0 (stp_call (k_strings_Join l7 between3 r11 h12) ⟨.inl rfl, .inl rfl, trivial⟩) ?_
    refine seq_run0 (stp_assign (.dat _) rfl) ?_
    refine awp_ret ?_
    cases H
    exact ⟨trivial, ⟨.inl rfl, trivial⟩, rfl⟩
  · rintro k8 ⟨c5, c6, l7⟩ q9 h13 H hq9
    replace H : gatemake_Stream_Words_L1 l4 k8 c5 c6 l7 = some q9 := H
    unfold gatemake_Stream_Words_L1 at H
    refine awp_seq ?_
    refine awp_plain hN rfl ?_
    refine seq_run0 (stp_lss rfl rfl) ?_
    refine awp_seq ?_
    refine awp_cond _ rfl (fun h => ?_) (fun h => (lt_fI h13 h).elim)
    refine awp_skip ?_
    refine awp_seq ?_
    refine awp_block ?_
    refine awp_plain hN rfl ?_
    refine seq_run0 (stp_move (.row _ _) rfl) ?_
    refine seq_run0 (stp_move (.ptr _ _) rfl) ?_
    refine seq_run0 (stp_move (.dat _) rfl) ?_
    obtain ⟨r14, h15, H⟩ := bnd H
    refine seq_run2 (stp_imp (k_gatemake_Stream_Some (S_gatemake_Stream.mk c5 c6) l4 r14 h15) rfl ⟨.inl rfl, trivial⟩ rfl) rfl ?_
    refine seq_run0 (stp_dat (u' := vlst (List.map C_string [r14.1])) (stp_lit [[_]] tyL46 ⟨rfl, .inl ⟨_, rfl, rfl, rfl⟩, rfl, trivial⟩ rfl rfl) rfl) ?_
    obtain ⟨h16, H⟩ := gif H
    refine seq_run2 (t_app tyL46 (fun _ => rfl) rfl rfl rfl ⟨by simp, by first | (simp; done) | simpa using h16⟩ rfl) rfl ?_
    refine seq_run0 (stp_assign (.row _ _) rfl) ?_
    refine awp_plain hN rfl ?_
    refine seq_run0 (stp_add rfl rfl (by omega)) ?_
    refine seq_run0 (stp_move (.dat _) rfl) ?_
    exact ⟨_, backl H, ⟨rfl, rfl, rfl, rfl, rfl, rfl, trivial⟩, ⟨rfl, rfl, trivial⟩⟩
theorem k_gatemake_Stream_ControlValue (s1 : S_gatemake_Stream) (r : (Bs × S_gatemake_Stream)) (H : m_gatemake_Stream_ControlValue s1 = some r) : Imp Tryz.prog 7 25 (C_gatemake_Stream s1) [] (resOf [vstr r.1]) (C_gatemake_Stream r.2) := by
  refine imp_of (us := [vstr r.1]) (cs' := (C_gatemake_Stream r.2)) (by kernel_rfl) Tryz.func7 rfl rfl rfl rfl fun X bl hN => ?_
  unfold m_gatemake_Stream_ControlValue at H
  refine awp_seq ?_
  refine awp_plain hN rfl ?_
  refine seq_run0 (stp_assign (.dat _) rfl) ?_
  refine awp_seq ?_
  refine awp_plain hN rfl ?_
  refine seq_run0 (stp_move (.ptr _ _) rfl) ?_
  refine seq_run0 (stp_move (.ptr _ _) rfl) ?_
  obtain ⟨r2, h3, H⟩ := bnd H
  refine seq_run2 (stp_imp (k_gatemake_Stream_Range s1 0 3 r2 h3) rfl ⟨.inl rfl, .inl rfl, trivial⟩ rfl) rfl ?_
  refine seq_run0 (stp_dat (u' := vlst (List.map C_string [[109, 97, 120, 45, 97, 103, 101, 61, 54, 48], [109, 97, 120, 45, 97, 103, 101, 61, 54, 48], [109, 97, 120, 45, 97, 103, 101, 61, 48], [109, 97, 120, 45, 97, 103, 101, 61, 49, 48], [115, 45, 109, 97, 120, 97, 103, 101, 61, 51, 48], [110, 111, 45, 99, 97, 99, 104, 101], [112, 117, 98, 108, 105, 99], [109, 117, 115, 116, 45, 114, 101, 118, 97, 108, 105, 100, 97, 116, 101], [115, 116, 97, 108, 101, 45, 119, 104, 105, 108, 101, 45, 114, 101, 118, 97, 108, 105, 100, 97, 116, 101, 61, 50, 48], [115, 116, 97, 108, 101, 45, 105, 102, 45, 101, 114, 114, 111, 114, 61, 49, 48, 48], [120, 61, 49], [121], [77, 97, 120, 45, 65, 103, 101, 61, 57, 48]])) (stp_lit [[_], [_], [_], [_], [_], [_], [_], [_], [_], [_], [_], [_], [_]] tyL46 ⟨rfl, .inl ⟨_, rfl, rfl, rfl⟩, rfl, rfl, .inl ⟨_, rfl, rfl, rfl⟩, rfl, rfl, .inl ⟨_, rfl, rfl, rfl⟩, rfl, rfl, .inl ⟨_, rfl, rfl, rfl⟩, rfl, rfl, .inl ⟨_, rfl, rfl, rfl⟩, rfl, rfl, .inl ⟨_, rfl, rfl, rfl⟩, rfl, rfl, .inl ⟨_, rfl, rfl, rfl⟩, rfl, rfl, .inl ⟨_, rfl, rfl, rfl⟩, rfl, rfl, .inl ⟨_, rfl, rfl, rfl⟩, rfl, rfl, .inl ⟨_, rfl, rfl, rfl⟩, rfl, rfl, .inl ⟨_, rfl, rfl, rfl⟩, rfl, rfl, .inl ⟨_, rfl, rfl, rfl⟩, rfl, rfl, .inl ⟨_, rfl, rfl, rfl⟩, rfl, trivial⟩ rfl rfl) rfl) ?_
  obtain ⟨r4, h5, H⟩ := bnd H
  refine seq_run2 (stp_imp (k_gatemake_Stream_Words r2.2 r2.1 [44, 32] ([[109, 97, 120, 45, 97, 103, 101, 61, 54, 48], [109, 97, 120, 45, 97, 103, 101, 61, 54, 48], [109, 97, 120, 45, 97, 103, 101, 61, 48], [109, 97, 120, 45, 97, 103, 101, 61, 49, 48], [115, 45, 109, 97, 120, 97, 103, 101, 61, 51, 48], [110, 111, 45, 99, 97, 99, 104, 101], [112, 117, 98, 108, 105, 99], [109, 117, 115, 116, 45, 114, 101, 118, 97, 108, 105, 100, 97, 116, 101], [115, 116, 97, 108, 101, 45, 119, 104, 105, 108, 101, 45, 114, 101, 118, 97, 108, 105, 100, 97, 116, 101, 61, 50, 48], [115, 116, 97, 108, 101, 45, 105, 102, 45, 101, 114, 114, 111, 114, 61, 49, 48, 48], [120, 61, 49], [121], [77, 97, 120, 45, 65, 103, 101, 61, 57, 48]]) r4 h5) rfl ⟨.inl rfl, .inl rfl, .inl rfl, trivial⟩ rfl) rfl ?_
  refine seq_run0 (stp_assign (.dat _) rfl) ?_
  refine awp_joinE (ι := Bs × (List Int) × Int) (fun i => [(0, .ptr 0 0), (3, .dat (vstr i.1))]) (fun i => [(0, .box (some bl) 25 [.dat (vlst (List.map C_int i.2.1)), .dat (vint i.2.2)])]) (fun i => gatemake_Stream_ControlValue_J1 i.1 i.2.1 i.2.2 = some r) (fun i => rfl) ?_ ?_
  · skip
    refine awp_seq ?_
    refine awp_plain hN rfl ?_
    refine seq_run0 (stp_move (.ptr _ _) rfl) ?_
    obtain ⟨r6, h7, H⟩ := bnd H
    refine seq_run2 (stp_imp (k_gatemake_Stream_Flip r4.2 10 r6 h7) rfl ⟨.inl rfl, trivial⟩ rfl) rfl ?_
    refine awp_cond _ rfl (fun h8 => ?_) (fun h8 => ?_)
    · replace H := ift h8 H
      refine awp_plain hN rfl ?_
      refine seq_run0 (stp_move (.ptr _ _) rfl) ?_
      refine seq_run0 (stp_dat (u' := vlst (List.map C_string [[110, 111, 45, 115, 116, 111, 114, 101], [112, 114, 105, 118, 97, 116, 101], [109, 97, 120, 45, 97, 103, 101, 61, 54, 48], [111, 110, 108, 121, 45, 105, 102, 45, 99, 97, 99, 104, 101, 100], [105, 109, 109, 117, 116, 97, 98, 108, 101]])) (stp_lit [[_], [_], [_], [_], [_]] tyL46 ⟨rfl, .inl ⟨_, rfl, rfl, rfl⟩, rfl, rfl, .inl ⟨_, rfl, rfl, rfl⟩, rfl, rfl, .inl ⟨_, rfl, rfl, rfl⟩, rfl, rfl, .inl ⟨_, rfl, rfl, rfl⟩, rfl, rfl, .inl ⟨_, rfl, rfl, rfl⟩, rfl, trivial⟩ rfl rfl) rfl) ?_
      obtain ⟨r9, h10, H⟩ := bnd H
      refine seq_run2 (stp_imp (k_gatemake_Stream_Words r6.2 2 [44] ([[110, 111, 45, 115, 116, 111, 114, 101], [112, 114, 105, 118, 97, 116, 101], [109, 97, 120, 45, 97, 103, 101, 61, 54, 48], [111, 110, 108, 121, 45, 105, 102, 45, 99, 97, 99, 104, 101, 100], [105, 109, 109, 117, 116, 97, 98, 108, 101]]) r9 h10) rfl ⟨.inl rfl, .inl rfl, .inl rfl, trivial⟩ rfl) rfl ?_
      refine seq_run0 (stp_assign (.dat _) rfl) ?_
      exact ⟨(r9.1, r9.2.L, r9.2.at_), H, ⟨rfl, rfl, trivial⟩, ⟨rfl, trivial⟩⟩
    · replace H := iff_ h8 H
      refine awp_skip ?_
      exact ⟨(r4.1, r6.2.L, r6.2.at_), H, ⟨rfl, rfl, trivial⟩, ⟨rfl, trivial⟩⟩
  · rintro ⟨t11, c12, c13⟩ H
    replace H : gatemake_Stream_ControlValue_J1 t11 c12 c13 = some r := H
    unfold gatemake_Stream_ControlValue_J1 at H
    refine awp_joinE (ι := Bs × (List Int) × Int) (fun i => [(3, .dat (vstr i.1))]) (fun i => [(0, .box (some bl) 25 [.dat (vlst (List.map C_int i.2.1)), .dat (vint i.2.2)])]) (fun i => gatemake_Stream_ControlValue_J2 i.1 i.2.1 i.2.2 = some r) (fun i => rfl) ?_ ?_
    · skip
      refine awp_seq ?_
      refine awp_plain hN rfl ?_
      refine seq_run0 (stp_move (.ptr _ _) rfl) ?_
      obtain ⟨r14, h15, H⟩ := bnd H
      refine seq_run2 (stp_imp (k_gatemake_Stream_Flip (S_gatemake_Stream.mk c12 c13) 20 r14 h15) rfl ⟨.inl rfl, trivial⟩ rfl) rfl ?_
      refine awp_cond _ rfl (fun h16 => ?_) (fun h16 => ?_)
      · replace H := ift h16 H
        refine awp_plain hN rfl ?_
        refine seq_run0 (stp_move (.ptr _ _) rfl) ?_
        refine seq_run0 (stp_dat (u' := vlst (List.map C_string [[109, 97, 120, 45, 97, 103, 101], [110, 111, 45, 99, 97, 99, 104, 101, 61, 49], [109, 97, 120, 45, 97, 103, 101, 61, 45, 49], [109, 97, 120, 45, 97, 103, 101, 61, 48, 49], [109, 97, 120, 45, 97, 103, 101, 61, 49, 48, 48, 48, 48, 48, 48, 48, 49], [61, 49], [97, 32, 98], [109, 97, 120, 45, 97, 103, 101, 61, 54, 48, 32, 44, 32, 44, 32, 110, 111, 45, 99, 97, 99, 104, 101]])) (stp_lit [[_], [_], [_], [_], [_], [_], [_], [_]] tyL46 ⟨rfl, .inl ⟨_, rfl, rfl, rfl⟩, rfl, rfl, .inl ⟨_, rfl, rfl, rfl⟩, rfl, rfl, .inl ⟨_, rfl, rfl, rfl⟩, rfl, rfl, .inl ⟨_, rfl, rfl, rfl⟩, rfl, rfl, .inl ⟨_, rfl, rfl, rfl⟩, rfl, rfl, .inl ⟨_, rfl, rfl, rfl⟩, rfl, rfl, .inl ⟨_, rfl, rfl, rfl⟩, rfl, rfl, .inl ⟨_, rfl, rfl, rfl⟩, rfl, trivial⟩ rfl rfl) rfl) ?_
        obtain ⟨r17, h18, H⟩ := bnd H
        refine seq_run2 (stp_imp (k_gatemake_Stream_Some r14.2 ([[109, 97, 120, 45, 97, 103, 101], [110, 111, 45, 99, 97, 99, 104, 101, 61, 49], [109, 97, 120, 45, 97, 103, 101, 61, 45, 49], [109, 97, 120, 45, 97, 103, 101, 61, 48, 49], [109, 97, 120, 45, 97, 103, 101, 61, 49, 48, 48, 48, 48, 48, 48, 48, 49], [61, 49], [97, 32, 98], [109, 97, 120, 45, 97, 103, 101, 61, 54, 48, 32, 44, 32, 44, 32, 110, 111, 45, 99, 97, 99, 104, 101]]) r17 h18) rfl ⟨.inl rfl, trivial⟩ rfl) rfl ?_
        refine seq_run0 (stp_assign (.dat _) rfl) ?_
        exact ⟨(r17.1, r17.2.L, r17.2.at_), H, ⟨rfl, trivial⟩, ⟨rfl, trivial⟩⟩
      · replace H := iff_ h16 H
        refine awp_skip ?_
        exact ⟨(t11, r14.2.L, r14.2.at_), H, ⟨rfl, trivial⟩, ⟨rfl, trivial⟩⟩
    · rintro ⟨t19, c20, c21⟩ H
      replace H : gatemake_Stream_ControlValue_J2 t19 c20 c21 = some r := H
      unfold gatemake_Stream_ControlValue_J2 at H
      refine awp_seq ?_
      refine awp_plain hN rfl ?_
      refine seq_run0 (stp_move (.dat _) rfl) ?_
      refine seq_run0 (stp_assign (.dat _) rfl) ?_
      refine awp_ret ?_
      cases H
      exact ⟨trivial, ⟨.inl rfl, trivial⟩, rfl⟩
theorem k_gatemake_Stream_AskValue (s1 : S_gatemake_Stream) (r : (Bs × S_gatemake_Stream)) (H : m_gatemake_Stream_AskValue s1 = some r) : Imp Tryz.prog 8 25 (C_gatemake_Stream s1) [] (resOf [vstr r.1]) (C_gatemake_Stream r.2) := by
  refine imp_of (us := [vstr r.1]) (cs' := (C_gatemake_Stream r.2)) (by kernel_rfl) Tryz.func8 rfl rfl rfl rfl fun X bl hN => ?_
  unfold m_gatemake_Stream_AskValue at H
  refine awp_seq ?_
  refine awp_plain hN rfl ?_
  refine seq_run0 (stp_assign (.dat _) rfl) ?_
  refine awp_seq ?_
  refine awp_plain hN rfl ?_
  refine seq_run0 (stp_move (.ptr _ _) rfl) ?_
  refine seq_run0 (stp_move (.ptr _ _) rfl) ?_
  obtain ⟨r2, h3, H⟩ := bnd H
  refine seq_run2 (stp_imp (k_gatemake_Stream_Range s1 1 2 r2 h3) rfl ⟨.inl rfl, .inl rfl, trivial⟩ rfl) rfl ?_
  refine seq_run0 (stp_dat (u' := vlst (List.map C_string [[109, 97, 120, 45, 97, 103, 101, 61, 51, 48], [109, 97, 120, 45, 97, 103, 101, 61, 48], [109, 105, 110, 45, 102, 114, 101, 115, 104, 61, 50, 48], [109, 97, 120, 45, 115, 116, 97, 108, 101, 61, 49, 53], [110, 111, 45, 99, 97, 99, 104, 101], [111, 110, 108, 121, 45, 105, 102, 45, 99, 97, 99, 104, 101, 100], [109, 97, 120, 45, 115, 116, 97, 108, 101, 61, 49, 48, 48, 48], [110, 111, 45, 115, 116, 111, 114, 101]])) (stp_lit [[_], [_], [_], [_], [_], [_], [_], [_]] tyL46 ⟨rfl, .inl ⟨_, rfl, rfl, rfl⟩, rfl, rfl, .inl ⟨_, rfl, rfl, rfl⟩, rfl, rfl, .inl ⟨_, rfl, rfl, rfl⟩, rfl, rfl, .inl ⟨_, rfl, rfl, rfl⟩, rfl, rfl, .inl ⟨_, rfl, rfl, rfl⟩, rfl, rfl, .inl ⟨_, rfl, rfl, rfl⟩, rfl, rfl, .inl ⟨_, rfl, rfl, rfl⟩, rfl, rfl, .inl ⟨_, rfl, rfl, rfl⟩, rfl, trivial⟩ rfl rfl) rfl) ?_
  obtain ⟨r4, h5, H⟩ := bnd H
  refine seq_run2 (stp_imp (k_gatemake_Stream_Words r2.2 r2.1 [44, 32] ([[109, 97, 120, 45, 97, 103, 101, 61, 51, 48], [109, 97, 120, 45, 97, 103, 101, 61, 48], [109, 105, 110, 45, 102, 114, 101, 115, 104, 61, 50, 48], [109, 97, 120, 45, 115, 116, 97, 108, 101, 61, 49, 53], [110, 111, 45, 99, 97, 99, 104, 101], [111, 110, 108, 121, 45, 105, 102, 45, 99, 97, 99, 104, 101, 100], [109, 97, 120, 45, 115, 116, 97, 108, 101, 61, 49, 48, 48, 48], [110, 111, 45, 115, 116, 111, 114, 101]]) r4 h5) rfl ⟨.inl rfl, .inl rfl, .inl rfl, trivial⟩ rfl) rfl ?_
  refine seq_run0 (stp_assign (.dat _) rfl) ?_
  refine awp_joinE (ι := Bs × (List Int) × Int) (fun i => [(3, .dat (vstr i.1))]) (fun i => [(0, .box (some bl) 25 [.dat (vlst (List.map C_int i.2.1)), .dat (vint i.2.2)])]) (fun i => gatemake_Stream_AskValue_J1 i.1 i.2.1 i.2.2 = some r) (fun i => rfl) ?_ ?_
  · skip
    refine awp_seq ?_
    refine awp_plain hN rfl ?_
    refine seq_run0 (stp_move (.ptr _ _) rfl) ?_
    obtain ⟨r6, h7, H⟩ := bnd H
    refine seq_run2 (stp_imp (k_gatemake_Stream_Flip r4.2 20 r6 h7) rfl ⟨.inl rfl, trivial⟩ rfl) rfl ?_
    refine awp_cond _ rfl (fun h8 => ?_) (fun h8 => ?_)
    · replace H := ift h8 H
      refine awp_plain hN rfl ?_
      refine seq_run0 (stp_move (.ptr _ _) rfl) ?_
      refine seq_run0 (stp_dat (u' := vlst (List.map C_string [[109, 97, 120, 45, 115, 116, 97, 108, 101], [109, 105, 110, 45, 102, 114, 101, 115, 104, 61, 120]])) (stp_lit [[_], [_]] tyL46 ⟨rfl, .inl ⟨_, rfl, rfl, rfl⟩, rfl, rfl, .inl ⟨_, rfl, rfl, rfl⟩, rfl, trivial⟩ rfl rfl) rfl) ?_
      obtain ⟨r9, h10, H⟩ := bnd H
      refine seq_run2 (stp_imp (k_gatemake_Stream_Some r6.2 ([[109, 97, 120, 45, 115, 116, 97, 108, 101], [109, 105, 110, 45, 102, 114, 101, 115, 104, 61, 120]]) r9 h10) rfl ⟨.inl rfl, trivial⟩ rfl) rfl ?_
      refine seq_run0 (stp_assign (.dat _) rfl) ?_
      exact ⟨(r9.1, r9.2.L, r9.2.at_), H, ⟨rfl, trivial⟩, ⟨rfl, trivial⟩⟩
    · replace H := iff_ h8 H
      refine awp_skip ?_
      exact ⟨(r4.1, r6.2.L, r6.2.at_), H, ⟨rfl, trivial⟩, ⟨rfl, trivial⟩⟩
  · rintro ⟨t11, c12, c13⟩ H
    replace H : gatemake_Stream_AskValue_J1 t11 c12 c13 = some r := H
    unfold gatemake_Stream_AskValue_J1 at H
    refine awp_seq ?_
    refine awp_plain hN rfl ?_
    refine seq_run0 (stp_move (.dat _) rfl) ?_
    refine seq_run0 (stp_assign (.dat _) rfl) ?_
    refine awp_ret ?_
    cases H
    exact ⟨trivial, ⟨.inl rfl, trivial⟩, rfl⟩
theorem kr_gatemake_Stream_Headers (s1 : S_gatemake_Stream) (most2 : Int) (r : ((List S_api_Header) × S_gatemake_Stream)) (H : m_gatemake_Stream_Headers s1 most2 = some r) : FnG Tryz.prog 4 [.ptr 0 0, .dat (vint most2)] [(0, .box (some 0) 25 (List.map .dat (C_gatemake_Stream s1)))] (.row 1 r.1.length) [(0, .box (some 0) 25 (List.map .dat (C_gatemake_Stream r.2))), (1, .row 32 2 (List.map C_api_Header r.1))] := by
  refine fnG_of (by kernel_rfl) Tryz.func4 rfl rfl rfl rfl fun X A hN => ?_
  unfold m_gatemake_Stream_Headers at H
  refine awp_seq ?_
  refine awp_plain hN rfl ?_
  refine seq_run0 (stp_assign (.dat _) rfl) ?_
  refine awp_seq ?_
  refine awp_plain hN rfl ?_
  refine seq_run0 (stp_move (.ptr _ _) rfl) ?_
  refine seq_run0 (stp_move (.dat _) rfl) ?_
  obtain ⟨r3, h4, H⟩ := bnd H
  refine seq_callG (rn [(0, 0), (1, 1)]) [(0, _, _, some _)] [(1, _)] (kr_gatemake_Stream_RightHeaders s1 most2 r3 h4) ⟨rfl, rfl, trivial⟩ ⟨.inl (.inl rfl), .inl (.inl rfl), trivial⟩ ⟨⟨⟨rfl, rfl⟩, trivial⟩, trivial⟩ rfl ?_
  refine seq_run0 (stp_assign (.row _ _) rfl) ?_
  refine awp_joinE (ι := (List S_api_Header) × (List Int) × Int) (fun i => [(0, .ptr 0 0), (5, .row 1 i.1.length)]) (fun i => [(0, .box (some (A.bl 0)) 25 [.dat (vlst (List.map C_int i.2.1)), .dat (vint i.2.2)]), (1, .row 32 2 (List.map C_api_Header i.1))]) (fun i => gatemake_Stream_Headers_J1 i.1 i.2.1 i.2.2 = some r) (fun i => rfl) ?_ ?_
  · skip
    refine awp_seq ?_
    refine awp_plain hN rfl ?_
    refine seq_run0 (stp_move (.ptr _ _) rfl) ?_
    obtain ⟨r5, h6, H⟩ := bnd H
    refine seq_run2 (stp_imp (k_gatemake_Stream_Flip r3.2 10 r5 h6) rfl ⟨.inl rfl, trivial⟩ rfl) rfl ?_
    refine awp_cond _ rfl (fun h7 => ?_) (fun h7 => ?_)
    · replace H := ift h7 H
      refine awp_plain hN rfl ?_
      refine seq_run0 (stp_move (.row _ _) rfl) ?_
      refine seq_run0 (stp_move (.ptr _ _) rfl) ?_
      obtain ⟨r8, h9, H⟩ := bnd H
      refine seq_run2 (stp_imp (k_gatemake_Stream_TokenText r5.2 r8 h9) rfl trivial rfl) rfl ?_
      refine seq_run0 (stp_move (.ptr _ _) rfl) ?_
      obtain ⟨r10, h11, H⟩ := bnd H
      refine seq_run2 (stp_imp (k_gatemake_Stream_FieldText r8.2 r10 h11) rfl trivial rfl) rfl ?_
      refine seq_run0 (stp_dat (u' := vagg (C_api_Header (S_api_Header.mk r8.1 r10.1))) (stp_build [(0, [vstr r8.1]), (1, [vstr r10.1])] tyZ32 tyP32 rfl ⟨rfl, .inl ⟨_, rfl, rfl, rfl⟩, rfl, rfl, .inl ⟨_, rfl, rfl, rfl⟩, rfl, trivial⟩) rfl) ?_
      refine seq_run0 (stp_dat (u' := vlst (List.map C_api_Header [(S_api_Header.mk r8.1 r10.1)])) (stp_lit [_] tyL26 ⟨rfl, .inr rfl, rfl, trivial⟩ rfl rfl) rfl) ?_
      obtain ⟨h12, H⟩ := gif H
      refine seq_run2 (t_app tyL26 (fun _ => rfl) rfl rfl rfl ⟨by simp, by first | (simp; done) | simpa using h12⟩ rfl) rfl ?_
      refine seq_run0 (stp_assign (.row _ _) rfl) ?_
      exact ⟨((r3.1 ++ [(S_api_Header.mk r8.1 r10.1)]), r10.2.L, r10.2.at_), H, ⟨rfl, rfl, trivial⟩, ⟨rfl, rfl, trivial⟩⟩
    · replace H := iff_ h7 H
      refine awp_skip ?_
      exact ⟨(r3.1, r5.2.L, r5.2.at_), H, ⟨rfl, rfl, trivial⟩, ⟨rfl, rfl, trivial⟩⟩
  · rintro ⟨out13, c14, c15⟩ H
    replace H : gatemake_Stream_Headers_J1 out13 c14 c15 = some r := H
    unfold gatemake_Stream_Headers_J1 at H
    refine awp_joinE (ι := (List S_api_Header) × (List Int) × Int) (fun i => [(5, .row 1 i.1.length)]) (fun i => [(0, .box (some (A.bl 0)) 25 [.dat (vlst (List.map C_int i.2.1)), .dat (vint i.2.2)]), (1, .row 32 2 (List.map C_api_Header i.1))]) (fun i => gatemake_Stream_Headers_J2 i.1 i.2.1 i.2.2 = some r) (fun i => rfl) ?_ ?_
    · skip
      refine awp_seq ?_
      refine awp_plain hN rfl ?_
      refine seq_run0 (stp_move (.ptr _ _) rfl) ?_
      obtain ⟨r16, h17, H⟩ := bnd H
      refine seq_run2 (stp_imp (k_gatemake_Stream_Flip (S_gatemake_Stream.mk c14 c15) 60 r16 h17) rfl ⟨.inl rfl, trivial⟩ rfl) rfl ?_
      refine awp_cond _ rfl (fun h18 => ?_) (fun h18 => ?_)
      · replace H := ift h18 H
        refine awp_seq ?_
        refine awp_plain hN rfl ?_
        refine seq_run0 (stp_move (.dat _) rfl) ?_
        refine awp_block ?_
        obtain ⟨h22, H⟩ := gif H
        refine awp_rng (fun (k20 : Nat) (s : (List S_api_Header)) => [(5, .row 1 s.length), (21, .dat (vint (k20 : Int)))]) (fun (k20 : Nat) (s : (List S_api_Header)) => [(0, .box (some (A.bl 0)) 25 [.dat (vlst (List.map C_int r16.2.L)), .dat (vint r16.2.at_)]), (1, .row 32 2 (List.map C_api_Header s))]) out13 H ⟨rfl, rfl, trivial⟩ ⟨rfl, rfl, trivial⟩ (fun _ _ => rfl) ?_ ?_
        · rintro l19 H
          replace H : gatemake_Stream_Headers_E3 r16 l19 = some r := H
          unfold gatemake_Stream_Headers_E3 at H
          refine awp_seq ?_
          refine awp_plain hN rfl ?_
          refine seq_run0 (stp_lss rfl rfl) ?_
          refine awp_seq ?_
          refine awp_cond _ rfl (fun h => (lt_t h).elim) (fun h => ?_)
          refine awp_exit ?_
          exact ⟨(l19, r16.2.L, r16.2.at_), H, ⟨rfl, trivial⟩, ⟨rfl, rfl, trivial⟩⟩
        · rintro k20 l19 q21 h23 H hq21
          replace H : gatemake_Stream_Headers_L3 k20 l19 = some q21 := H
          unfold gatemake_Stream_Headers_L3 at H
          refine awp_seq ?_
          refine awp_plain hN rfl ?_
          refine seq_run0 (stp_lss rfl rfl) ?_
          refine awp_seq ?_
          refine awp_cond _ rfl (fun h => ?_) (fun h => (lt_f h23 h).elim)
          refine awp_skip ?_
          refine awp_seq ?_
          refine awp_block ?_
          refine awp_plain hN rfl ?_
          refine seq_run0 (stp_move (.row _ _) rfl) ?_
          refine seq_run0 (stp_dat (u' := vagg (C_api_Header (S_api_Header.mk [110] [118]))) (stp_build [(0, [vstr [110]]), (1, [vstr [118]])] tyZ32 tyP32 rfl ⟨rfl, .inl ⟨_, rfl, rfl, rfl⟩, rfl, rfl, .inl ⟨_, rfl, rfl, rfl⟩, rfl, trivial⟩) rfl) ?_
          refine seq_run0 (stp_dat (u' := vlst (List.map C_api_Header [(S_api_Header.mk [110] [118])])) (stp_lit [_] tyL26 ⟨rfl, .inr rfl, rfl, trivial⟩ rfl rfl) rfl) ?_
          obtain ⟨h24, H⟩ := gif H
          refine seq_run2 (t_app tyL26 (fun _ => rfl) rfl rfl rfl ⟨by simp, by first | (simp; done) | simpa using h24⟩ rfl) rfl ?_
          refine seq_run0 (stp_assign (.row _ _) rfl) ?_
          refine awp_plain hN rfl ?_
          refine seq_run0 (stp_add rfl rfl (by omega)) ?_
          refine seq_run0 (stp_move (.dat _) rfl) ?_
          exact ⟨_, backl H, ⟨rfl, rfl, trivial⟩, ⟨rfl, rfl, trivial⟩⟩
      · replace H := iff_ h18 H
        refine awp_skip ?_
        exact ⟨(out13, r16.2.L, r16.2.at_), H, ⟨rfl, trivial⟩, ⟨rfl, rfl, trivial⟩⟩
    · rintro ⟨out25, c26, c27⟩ H
      replace H : gatemake_Stream_Headers_J2 out25 c26 c27 = some r := H
      unfold gatemake_Stream_Headers_J2 at H
      refine awp_seq ?_
      refine awp_plain hN rfl ?_
      refine seq_run0 (stp_move (.row _ _) rfl) ?_
      refine seq_run0 (stp_assign (.row _ _) rfl) ?_
      refine awp_ret ?_
      cases H
      exact ⟨trivial, [(4, .row 1 _)], ⟨rfl, trivial⟩, ⟨rfl, rfl, trivial⟩, rfl, .inr ⟨4, rfl, rfl⟩⟩
theorem k_gatelaw2_ControlsRead (v1 : (List Int)) (r : (Bool)) (H : m_gatelaw2_ControlsRead v1 = some r) : Fn Tryz.prog 3 [vlst (List.map C_int v1)] (resOf [vbool r]) := by
  refine ⟨by kernel_rfl, pure_of (us := [vbool r]) Tryz.func3 rfl rfl rfl rfl fun X hN => ?_⟩
  unfold m_gatelaw2_ControlsRead at H
  refine awp_seq ?_
  refine awp_plain hN rfl ?_
  refine seq_run0 (stp_assign (.dat _) rfl) ?_
  refine awp_seq ?_
  refine awp_plain hN rfl ?_
  refine seq_run0 (stp_move (.dat _) rfl) ?_
  refine seq_run0 (stp_dat (u' := vagg (C_gatemake_Stream (S_gatemake_Stream.mk v1 0))) (stp_build [(0, [vlst (List.map C_int v1)])] tyZ25 tyP25 rfl ⟨rfl, .inl ⟨_, rfl, rfl, rfl⟩, rfl, trivial⟩) rfl) ?_
  refine seq_run2 (stp_boxA 1 rfl) rfl ?_
  refine seq_run0 (stp_assign (.ptr _ _) rfl) ?_
  refine awp_seq ?_
  refine awp_plain hN rfl ?_
  refine seq_run0 (stp_move (.ptr _ _) rfl) ?_
  obtain ⟨r2, h3, H⟩ := bnd H
  refine seq_callG (rn [(0, 1), (1, 2)]) [(0, _, _, some _)] [(1, _)] (kr_gatemake_Stream_Headers (S_gatemake_Stream.mk v1 0) 2 r2 h3) ⟨rfl, rfl, trivial⟩ ⟨.inl (.inl rfl), .inl (.inl rfl), trivial⟩ ⟨⟨⟨rfl, rfl⟩, trivial⟩, trivial⟩ rfl ?_
  refine seq_run0 (stp_assign (.row _ _) rfl) ?_
  refine awp_seq ?_
  refine awp_seq ?_
  refine awp_plain hN rfl ?_
  refine seq_run0 (stp_move (.ptr _ _) rfl) ?_
  obtain ⟨r4, h5, H⟩ := bnd H
  refine seq_run2 (stp_imp (k_gatemake_Stream_Range r2.2 0 2 r4 h5) rfl ⟨.inl rfl, .inl rfl, trivial⟩ rfl) rfl ?_
  refine seq_run0 (stp_move (.dat _) rfl) ?_
  refine awp_block ?_
  obtain ⟨h11, H⟩ := gif H
  refine awp_rng (fun (k9 : Nat) (s : (List Int) × Int × (List S_api_Header)) => [(3, .ptr 1 0), (4, .row 2 s.2.2.length), (18, .dat (vint r4.1)), (19, .dat (vint (k9 : Int)))]) (fun (k9 : Nat) (s : (List Int) × Int × (List S_api_Header)) => [(1, .box none 25 [.dat (vlst (List.map C_int s.1)), .dat (vint s.2.1)]), (2, .row 32 2 (List.map C_api_Header s.2.2))]) (r4.2.L, r4.2.at_, r2.1) H ⟨rfl, rfl, rfl, rfl, trivial⟩ ⟨rfl, rfl, trivial⟩ (fun _ _ => rfl) ?_ ?_
  · rintro ⟨c6, c7, l8⟩ H
    replace H : gatelaw2_ControlsRead_E1 c6 c7 l8 = some r := H
    unfold gatelaw2_ControlsRead_E1 at H
    refine awp_seq ?_
    refine awp_plain hN rfl ?_
    refine seq_run0 (stp_lss rfl rfl) ?_
    refine awp_seq ?_
    refine awp_cond _ rfl (fun h => (lt_tI h).elim) (fun h => ?_)
    refine awp_exit ?_
    refine awp_seq ?_
    refine t_freeze 4 2 rfl rfl rfl ?_
    refine awp_plain hN rfl ?_
    refine seq_run0 (stp_move (.dat _) rfl) ?_
    obtain ⟨r12, h13, H⟩ := bnd H
    refine seq_run0 (stp_call (k_cache_Parse l8 r12 h13) ⟨.inl rfl, trivial⟩) ?_
    refine seq_run0 (stp_move (.dat _) rfl) ?_
    refine seq_run0 (stp_ext rfl rfl) ?_
    refine seq_run0 (stp_ext rfl rfl) ?_
    refine seq_run2 (stp_alloc 3 tyZ34 rfl) rfl ?_
    refine seq_run2 (stp_storeW tyS34 rfl rfl rfl rfl) rfl ?_
    refine seq_run0 (stp_assign (.dat _) rfl) ?_
    refine awp_seq ?_
    refine awp_plain hN rfl ?_
    refine seq_run0 (stp_move (.dat _) rfl) ?_
    obtain ⟨r14, h15, H⟩ := bnd H
    refine seq_run0 (stp_call (k_gateref2_HeadersFault l8 r14 h15) ⟨.inl rfl, trivial⟩) ?_
    refine seq_run0 (stp_assign (.dat _) rfl) ?_
    refine awp_seq ?_
    refine awp_plain hN rfl ?_
    refine seq_run2 (stp_alloc 4 tyZ34 rfl) rfl ?_
    refine awp_joinE (ι := Int × Bool × Bool × Bool × Bool × Bool × Bool × Int × Int × Int × Int × Int × Int) (fun i => [(3, .ptr 1 0), (5, .ptr 3 0), (6, .dat (vint r12.2)), (7, .dat (vint i.1)), (8, .ptr 4 0)]) (fun i => [(1, .box none 25 [.dat (vlst (List.map C_int c6)), .dat (vint c7)]), (3, .box none 34 [.dat (vbool r12.1.NoStore), .dat (vbool r12.1.NoCache), .dat (vbool r12.1.Private), .dat (vbool r12.1.Public), .dat (vbool r12.1.Must), .dat (vbool r12.1.Only), .dat (vint r12.1.MaxAge), .dat (vint r12.1.Shared), .dat (vint r12.1.Stale), .dat (vint r12.1.OnError), .dat (vint r12.1.MaxStale), .dat (vint r12.1.MinFresh)]), (4, .box none 34 [.dat (vbool i.2.1), .dat (vbool i.2.2.1), .dat (vbool i.2.2.2.1), .dat (vbool i.2.2.2.2.1), .dat (vbool i.2.2.2.2.2.1), .dat (vbool i.2.2.2.2.2.2.1), .dat (vint i.2.2.2.2.2.2.2.1), .dat (vint i.2.2.2.2.2.2.2.2.1), .dat (vint i.2.2.2.2.2.2.2.2.2.1), .dat (vint i.2.2.2.2.2.2.2.2.2.2.1), .dat (vint i.2.2.2.2.2.2.2.2.2.2.2.1), .dat (vint i.2.2.2.2.2.2.2.2.2.2.2.2)])]) (fun i => gatelaw2_ControlsRead_J2 c6 c7 r12 i.1 i.2.1 i.2.2.1 i.2.2.2.1 i.2.2.2.2.1 i.2.2.2.2.2.1 i.2.2.2.2.2.2.1 i.2.2.2.2.2.2.2.1 i.2.2.2.2.2.2.2.2.1 i.2.2.2.2.2.2.2.2.2.1 i.2.2.2.2.2.2.2.2.2.2.1 i.2.2.2.2.2.2.2.2.2.2.2.1 i.2.2.2.2.2.2.2.2.2.2.2.2 = some r) (fun i => rfl) ?_ ?_
    · skip
      refine awp_seq ?_
      refine awp_plain hN rfl ?_
      refine seq_run0 (stp_move (.dat _) rfl) ?_
      refine seq_run0 (stp_eql rfl rfl) ?_
      refine awp_cond _ rfl (fun h16 => ?_) (fun h16 => ?_)
      · replace H := ift h16 H
        refine awp_plain hN rfl ?_
        refine seq_run0 (stp_move (.dat _) rfl) ?_
        obtain ⟨r17, h18, H⟩ := bnd H
        refine seq_run0 (stp_call (k_gateref2_ControlOf l8 r17 h18) ⟨.inl rfl, trivial⟩) ?_
        refine seq_run0 (stp_move (.dat _) rfl) ?_
        refine seq_run0 (stp_ext rfl rfl) ?_
        refine seq_run0 (stp_ext rfl rfl) ?_
        refine seq_run2 (stp_storeW tyS34 rfl rfl rfl rfl) rfl ?_
        refine seq_run0 (stp_assign (.dat _) rfl) ?_
        exact ⟨(r17.2, r17.1.NoStore, r17.1.NoCache, r17.1.Private, r17.1.Public, r17.1.Must, r17.1.Only, r17.1.MaxAge, r17.1.Shared, r17.1.Stale, r17.1.OnError, r17.1.MaxStale, r17.1.MinFresh), H, ⟨rfl, rfl, rfl, rfl, rfl, trivial⟩, ⟨rfl, rfl, rfl, trivial⟩⟩
      · replace H := iff_ h16 H
        refine awp_skip ?_
        exact ⟨(r14, false, false, false, false, false, false, 0, 0, 0, 0, 0, 0), H, ⟨rfl, rfl, rfl, rfl, rfl, trivial⟩, ⟨rfl, rfl, rfl, trivial⟩⟩
    · rintro ⟨v19, c20, c21, c22, c23, c24, c25, c26, c27, c28, c29, c30, c31⟩ H
      replace H : gatelaw2_ControlsRead_J2 c6 c7 r12 v19 c20 c21 c22 c23 c24 c25 c26 c27 c28 c29 c30 c31 = some r := H
      unfold gatelaw2_ControlsRead_J2 at H
      refine awp_seq ?_
      refine awp_joinE (ι := Bool) (fun i => [(3, .ptr 1 0), (5, .ptr 3 0), (57, .dat (vbool i))]) (fun i => [(1, .box none 25 [.dat (vlst (List.map C_int c6)), .dat (vint c7)]), (3, .box none 34 [.dat (vbool r12.1.NoStore), .dat (vbool r12.1.NoCache), .dat (vbool r12.1.Private), .dat (vbool r12.1.Public), .dat (vbool r12.1.Must), .dat (vbool r12.1.Only), .dat (vint r12.1.MaxAge), .dat (vint r12.1.Shared), .dat (vint r12.1.Stale), .dat (vint r12.1.OnError), .dat (vint r12.1.MaxStale), .dat (vint r12.1.MinFresh)])]) (fun i => gatelaw2_ControlsRead_J3 c6 c7 r12 i = some r) (fun i => rfl) ?_ ?_
      · skip
        refine awp_plain hN rfl ?_
        refine seq_run0 (stp_move (.dat _) rfl) ?_
        refine seq_run0 (stp_move (.dat _) rfl) ?_
        refine seq_run0 (stp_neq rfl rfl) ?_
        refine seq_run0 (stp_move (.dat _) rfl) ?_
        refine seq_split (j := 3) rfl rfl (fun h32 => ?_) (fun h32 => ?_) rfl
        · have h33 := un3 h32
          replace H := iff_ h33 H
          refine seq_g1 rfl rfl h32 (stp_loadA tyS34 rfl rfl rfl) rfl ?_
          refine seq_g1 rfl rfl h32 (stp_loadA tyS34 rfl rfl rfl) rfl ?_
          refine seq_g0 rfl rfl h32 (stp_aneq [_, _, _, _, _, _, _, _, _, _, _, _] [_, _, _, _, _, _, _, _, _, _, _, _] tyQ34 rfl rfl rfl) ?_
          refine seq_run0 (stp_pick_f rfl (bFF h33) rfl) ?_
          exact ⟨(!((r12.1.NoStore == c20) && ((r12.1.NoCache == c21) && ((r12.1.Private == c22) && ((r12.1.Public == c23) && ((r12.1.Must == c24) && ((r12.1.Only == c25) && ((r12.1.MaxAge == c26) && ((r12.1.Shared == c27) && ((r12.1.Stale == c28) && ((r12.1.OnError == c29) && ((r12.1.MaxStale == c30) && ((r12.1.MinFresh == c31) && true))))))))))))), H, ⟨rfl, rfl, rfl, trivial⟩, ⟨rfl, rfl, trivial⟩⟩
        · have h34 := un4 h32
          replace H := ift h34 H
          refine seq_skip rfl rfl h32 ?_
          refine seq_skip rfl rfl h32 ?_
          refine seq_skip rfl rfl h32 ?_
          refine seq_run0 (stp_pick_t rfl (bTT h34) rfl) ?_
          exact ⟨true, H, ⟨rfl, rfl, rfl, trivial⟩, ⟨rfl, rfl, trivial⟩⟩
      · rintro v35 H
        replace H : gatelaw2_ControlsRead_J3 c6 c7 r12 v35 = some r := H
        unfold gatelaw2_ControlsRead_J3 at H
        refine awp_cond _ rfl (fun h36 => ?_) (fun h36 => ?_)
        · replace H := ift h36 H
          refine awp_seq ?_
          refine awp_plain hN rfl ?_
          refine seq_run0 (stp_assign (.dat _) rfl) ?_
          refine awp_ret ?_
          cases H
          exact ⟨trivial, .inl rfl, trivial⟩
        · replace H := iff_ h36 H
          refine awp_skip ?_
          refine awp_joinE (ι := Bool × Bool × Bool × Bool × Bool × Bool × Int × Int × Int × Int × Int × Int) (fun i => [(5, .ptr 3 0)]) (fun i => [(3, .box none 34 [.dat (vbool i.1), .dat (vbool i.2.1), .dat (vbool i.2.2.1), .dat (vbool i.2.2.2.1), .dat (vbool i.2.2.2.2.1), .dat (vbool i.2.2.2.2.2.1), .dat (vint i.2.2.2.2.2.2.1), .dat (vint i.2.2.2.2.2.2.2.1), .dat (vint i.2.2.2.2.2.2.2.2.1), .dat (vint i.2.2.2.2.2.2.2.2.2.1), .dat (vint i.2.2.2.2.2.2.2.2.2.2.1), .dat (vint i.2.2.2.2.2.2.2.2.2.2.2)])]) (fun i => gatelaw2_ControlsRead_J4 i.1 i.2.1 i.2.2.1 i.2.2.2.1 i.2.2.2.2.1 i.2.2.2.2.2.1 i.2.2.2.2.2.2.1 i.2.2.2.2.2.2.2.1 i.2.2.2.2.2.2.2.2.1 i.2.2.2.2.2.2.2.2.2.1 i.2.2.2.2.2.2.2.2.2.2.1 i.2.2.2.2.2.2.2.2.2.2.2 = some r) (fun i => rfl) ?_ ?_
          · skip
            refine awp_seq ?_
            refine awp_plain hN rfl ?_
            refine seq_run0 (stp_move (.ptr _ _) rfl) ?_
            obtain ⟨r37, h38, H⟩ := bnd H
            refine seq_run2 (stp_imp (k_gatemake_Stream_Flip (S_gatemake_Stream.mk c6 c7) 3 r37 h38) rfl ⟨.inl rfl, trivial⟩ rfl) rfl ?_
            refine awp_cond _ rfl (fun h39 => ?_) (fun h39 => ?_)
            · replace H := ift h39 H
              refine awp_plain hN rfl ?_
              refine seq_run0 (stp_move (.ptr _ _) rfl) ?_
              obtain ⟨r40, h41, H⟩ := bnd H
              refine seq_run2 (stp_imp (k_gatemake_Stream_Flip r37.2 2 r40 h41) rfl ⟨.inl rfl, trivial⟩ rfl) rfl ?_
              refine seq_run0 (stp_move (.ptr _ _) rfl) ?_
              obtain ⟨r42, h43, H⟩ := bnd H
              refine seq_run2 (stp_imp (k_gatemake_Stream_Flip r40.2 2 r42 h43) rfl ⟨.inl rfl, trivial⟩ rfl) rfl ?_
              refine seq_run0 (stp_move (.ptr _ _) rfl) ?_
              obtain ⟨r44, h45, H⟩ := bnd H
              refine seq_run2 (stp_imp (k_gatemake_Stream_Flip r42.2 2 r44 h45) rfl ⟨.inl rfl, trivial⟩ rfl) rfl ?_
              refine seq_run0 (stp_move (.ptr _ _) rfl) ?_
              obtain ⟨r46, h47, H⟩ := bnd H
              refine seq_run2 (stp_imp (k_gatemake_Stream_Odd r44.2 (-1) 100 r46 h47) rfl ⟨.inl rfl, .inl rfl, trivial⟩ rfl) rfl ?_
              refine seq_run0 (stp_move (.ptr _ _) rfl) ?_
              obtain ⟨r48, h49, H⟩ := bnd H
              refine seq_run2 (stp_imp (k_gatemake_Stream_Odd r46.2 (-1) 100 r48 h49) rfl ⟨.inl rfl, .inl rfl, trivial⟩ rfl) rfl ?_
              refine seq_run0 (stp_move (.ptr _ _) rfl) ?_
              refine seq_run0 (stp_dat (u' := vlst (List.map C_int [(-1), 0, 5])) (stp_lit [[_], [_], [_]] tyL22 ⟨rfl, .inl ⟨_, rfl, rfl, rfl⟩, rfl, rfl, .inl ⟨_, rfl, rfl, rfl⟩, rfl, rfl, .inl ⟨_, rfl, rfl, rfl⟩, rfl, trivial⟩ rfl rfl) rfl) ?_
              obtain ⟨r50, h51, H⟩ := bnd H
              refine seq_run2 (stp_imp (k_gatemake_Stream_Pick r48.2 [(-1), 0, 5] r50 h51) rfl ⟨.inl rfl, trivial⟩ rfl) rfl ?_
              refine seq_run0 (stp_move (.ptr _ _) rfl) ?_
              refine seq_run0 (stp_dat (u' := vlst (List.map C_int [(-1), 7])) (stp_lit [[_], [_]] tyL22 ⟨rfl, .inl ⟨_, rfl, rfl, rfl⟩, rfl, rfl, .inl ⟨_, rfl, rfl, rfl⟩, rfl, trivial⟩ rfl rfl) rfl) ?_
              obtain ⟨r52, h53, H⟩ := bnd H
              refine seq_run2 (stp_imp (k_gatemake_Stream_Pick r50.2 [(-1), 7] r52 h53) rfl ⟨.inl rfl, trivial⟩ rfl) rfl ?_
              refine seq_run0 (stp_dat (u' := vagg (C_api_Control (S_api_Control.mk r40.1 false false r42.1 false r44.1 r46.1 r48.1 (-1) r50.1 (-1) r52.1))) (stp_build [(0, [vbool r40.1]), (3, [vbool r42.1]), (5, [vbool r44.1]), (6, [vint r46.1]), (7, [vint r48.1]), (8, [vint (-1)]), (9, [vint r50.1]), (10, [vint (-1)]), (11, [vint r52.1])] tyZ34 tyP34 rfl ⟨rfl, .inl ⟨_, rfl, rfl, rfl⟩, rfl, rfl, .inl ⟨_, rfl, rfl, rfl⟩, rfl, rfl, .inl ⟨_, rfl, rfl, rfl⟩, rfl, rfl, .inl ⟨_, rfl, rfl, rfl⟩, rfl, rfl, .inl ⟨_, rfl, rfl, rfl⟩, rfl, rfl, .inl ⟨_, rfl, rfl, rfl⟩, rfl, rfl, .inl ⟨_, rfl, rfl, rfl⟩, rfl, rfl, .inl ⟨_, rfl, rfl, rfl⟩, rfl, rfl, .inl ⟨_, rfl, rfl, rfl⟩, rfl, trivial⟩) rfl) ?_
              refine seq_run2 (stp_storeW tyS34 rfl rfl rfl rfl) rfl ?_
              exact ⟨(r40.1, false, false, r42.1, false, r44.1, r46.1, r48.1, (-1), r50.1, (-1), r52.1), H, ⟨rfl, trivial⟩, ⟨rfl, trivial⟩⟩
            · replace H := iff_ h39 H
              refine awp_skip ?_
              exact ⟨(r12.1.NoStore, r12.1.NoCache, r12.1.Private, r12.1.Public, r12.1.Must, r12.1.Only, r12.1.MaxAge, r12.1.Shared, r12.1.Stale, r12.1.OnError, r12.1.MaxStale, r12.1.MinFresh), H, ⟨rfl, trivial⟩, ⟨rfl, trivial⟩⟩
          · rintro ⟨c54, c55, c56, c57, c58, c59, c60, c61, c62, c63, c64, c65⟩ H
            replace H : gatelaw2_ControlsRead_J4 c54 c55 c56 c57 c58 c59 c60 c61 c62 c63 c64 c65 = some r := H
            unfold gatelaw2_ControlsRead_J4 at H
            refine awp_seq ?_
            refine awp_plain hN rfl ?_
            refine seq_run1 (stp_loadA tyS34 rfl rfl rfl) rfl ?_
            obtain ⟨r66, h67, H⟩ := bnd H
            refine seq_run0 (stp_call (k_cache_Text (S_api_Control.mk c54 c55 c56 c57 c58 c59 c60 c61 c62 c63 c64 c65) r66 h67) ⟨.inl rfl, trivial⟩) ?_
            refine seq_run0 (stp_move (.dat _) rfl) ?_
            refine seq_run0 (stp_ext rfl rfl) ?_
            refine seq_run0 (stp_ext rfl rfl) ?_
            refine seq_run0 (stp_assign (.dat _) rfl) ?_
            refine seq_run0 (stp_assign (.dat _) rfl) ?_
            refine awp_seq ?_
            refine awp_plain hN rfl ?_
            refine seq_run1 (stp_loadA tyS34 rfl rfl rfl) rfl ?_
            obtain ⟨r68, h69, H⟩ := bnd H
            refine seq_run0 (stp_call (k_gateref2_ControlText (S_api_Control.mk c54 c55 c56 c57 c58 c59 c60 c61 c62 c63 c64 c65) r68 h69) ⟨.inl rfl, trivial⟩) ?_
            refine seq_run0 (stp_move (.dat _) rfl) ?_
            refine seq_run0 (stp_ext rfl rfl) ?_
            refine seq_run0 (stp_ext rfl rfl) ?_
            refine seq_run0 (stp_assign (.dat _) rfl) ?_
            refine seq_run0 (stp_assign (.dat _) rfl) ?_
            refine awp_joinE (ι := Bool) (fun i => [(2, .dat (vbool i))]) (fun i => []) (fun i => gatelaw2_ControlsRead_J5 i = some r) (fun i => rfl) ?_ ?_
            · skip
              refine awp_plain hN rfl ?_
              refine seq_run0 (stp_move (.dat _) rfl) ?_
              refine seq_run0 (stp_move (.dat _) rfl) ?_
              refine seq_run0 (stp_seql rfl rfl) ?_
              refine seq_run0 (stp_move (.dat _) rfl) ?_
              refine seq_split (j := 3) rfl rfl (fun h70 => ?_) (fun h70 => ?_) rfl
              · have h71 := un1 h70
                replace H := ift h71 H
                refine seq_g0 rfl rfl h70 (stp_move (.dat _) rfl) ?_
                refine seq_g0 rfl rfl h70 (stp_move (.dat _) rfl) ?_
                refine seq_g0 rfl rfl h70 (stp_eql rfl rfl) ?_
                refine seq_run0 (stp_pick_t rfl (bTT h71) rfl) ?_
                refine seq_run0 (stp_move (.dat _) rfl) ?_
                refine seq_split (j := 8) rfl rfl (fun h72 => ?_) (fun h72 => ?_) rfl
                · have h73 := un1 h72
                  replace H := ift h73 H
                  obtain ⟨r74, h75, H⟩ := bnd H
                  refine seq_g0 rfl rfl h72 (stp_call (k_gatelaw2_kept  r74 h75) trivial) ?_
                  refine seq_run0 (stp_pick_t rfl (bTT h73) rfl) ?_
                  refine seq_run0 (stp_assign (.dat _) rfl) ?_
                  exact ⟨r74, H, ⟨rfl, trivial⟩, trivial⟩
                · have h76 := un2 h72
                  replace H := iff_ h76 H
                  refine seq_skip rfl rfl h72 ?_
                  refine seq_run0 (stp_pick_f rfl (bFF h76) rfl) ?_
                  refine seq_run0 (stp_assign (.dat _) rfl) ?_
                  exact ⟨false, H, ⟨rfl, trivial⟩, trivial⟩
              · have h77 := un2 h70
                replace H := iff_ h77 H
                refine seq_skip rfl rfl h70 ?_
                refine seq_skip rfl rfl h70 ?_
                refine seq_skip rfl rfl h70 ?_
                refine seq_run0 (stp_pick_f rfl (bFF h77) rfl) ?_
                refine seq_run0 (stp_move (.dat _) rfl) ?_
                refine seq_skip rfl rfl rfl ?_
                refine seq_run0 (stp_pick_f rfl rfl rfl) ?_
                refine seq_run0 (stp_assign (.dat _) rfl) ?_
                exact ⟨false, H, ⟨rfl, trivial⟩, trivial⟩
            · rintro v78 H
              replace H : gatelaw2_ControlsRead_J5 v78 = some r := H
              unfold gatelaw2_ControlsRead_J5 at H
              refine awp_ret ?_
              cases H
              exact ⟨trivial, .inl rfl, trivial⟩
  · rintro k9 ⟨c6, c7, l8⟩ q10 h79 H hq10
    replace H : gatelaw2_ControlsRead_L1 k9 c6 c7 l8 = some q10 := H
    unfold gatelaw2_ControlsRead_L1 at H
    refine awp_seq ?_
    refine awp_plain hN rfl ?_
    refine seq_run0 (stp_lss rfl rfl) ?_
    refine awp_seq ?_
    refine awp_cond _ rfl (fun h => ?_) (fun h => (lt_fI h79 h).elim)
    refine awp_skip ?_
    refine awp_seq ?_
    refine awp_block ?_
    refine awp_plain hN rfl ?_
    refine seq_run0 (stp_move (.row _ _) rfl) ?_
    refine seq_run0 (stp_move (.ptr _ _) rfl) ?_
    refine seq_run0 (stp_dat (u' := vlst (List.map C_string [[99, 97, 99, 104, 101, 45, 99, 111, 110, 116, 114, 111, 108], [67, 97, 99, 104, 101, 45, 67, 111, 110, 116, 114, 111, 108]])) (stp_lit [[_], [_]] tyL46 ⟨rfl, .inl ⟨_, rfl, rfl, rfl⟩, rfl, rfl, .inl ⟨_, rfl, rfl, rfl⟩, rfl, trivial⟩ rfl rfl) rfl) ?_
    obtain ⟨r80, h81, H⟩ := bnd H
    refine seq_run2 (stp_imp (k_gatemake_Stream_Some (S_gatemake_Stream.mk c6 c7) ([[99, 97, 99, 104, 101, 45, 99, 111, 110, 116, 114, 111, 108], [67, 97, 99, 104, 101, 45, 67, 111, 110, 116, 114, 111, 108]]) r80 h81) rfl ⟨.inl rfl, trivial⟩ rfl) rfl ?_
    refine seq_run0 (stp_move (.ptr _ _) rfl) ?_
    refine seq_run0 (stp_move (.ptr _ _) rfl) ?_
    obtain ⟨r82, h83, H⟩ := bnd H
    refine seq_run2 (stp_imp (k_gatemake_Stream_ControlValue r80.2 r82 h83) rfl trivial rfl) rfl ?_
    refine seq_run0 (stp_move (.ptr _ _) rfl) ?_
    obtain ⟨r84, h85, H⟩ := bnd H
    refine seq_run2 (stp_imp (k_gatemake_Stream_AskValue r82.2 r84 h85) rfl trivial rfl) rfl ?_
    refine seq_run0 (stp_dat (u' := vlst (List.map C_string [r82.1, r84.1])) (stp_lit [[_], [_]] tyL46 ⟨rfl, .inl ⟨_, rfl, rfl, rfl⟩, rfl, rfl, .inl ⟨_, rfl, rfl, rfl⟩, rfl, trivial⟩ rfl rfl) rfl) ?_
    obtain ⟨r86, h87, H⟩ := bnd H
    refine seq_run2 (stp_imp (k_gatemake_Stream_Some r84.2 [r82.1, r84.1] r86 h87) rfl ⟨.inl rfl, trivial⟩ rfl) rfl ?_
    refine seq_run0 (stp_dat (u' := vagg (C_api_Header (S_api_Header.mk r80.1 r86.1))) (stp_build [(0, [vstr r80.1]), (1, [vstr r86.1])] tyZ32 tyP32 rfl ⟨rfl, .inl ⟨_, rfl, rfl, rfl⟩, rfl, rfl, .inl ⟨_, rfl, rfl, rfl⟩, rfl, trivial⟩) rfl) ?_
    refine seq_run0 (stp_dat (u' := vlst (List.map C_api_Header [(S_api_Header.mk r80.1 r86.1)])) (stp_lit [_] tyL26 ⟨rfl, .inr rfl, rfl, trivial⟩ rfl rfl) rfl) ?_
    obtain ⟨h88, H⟩ := gif H
    refine seq_run2 (t_app tyL26 (fun _ => rfl) rfl rfl rfl ⟨by simp, by first | (simp; done) | simpa using h88⟩ rfl) rfl ?_
    refine seq_run0 (stp_assign (.row _ _) rfl) ?_
    refine awp_plain hN rfl ?_
    refine seq_run0 (stp_add rfl rfl (by omega)) ?_
    refine seq_run0 (stp_move (.dat _) rfl) ?_
    exact ⟨_, backl H, ⟨rfl, rfl, rfl, rfl, trivial⟩, ⟨rfl, rfl, trivial⟩⟩
end Go.Proofs.YthgeeoecgneclaaGreatDoor
