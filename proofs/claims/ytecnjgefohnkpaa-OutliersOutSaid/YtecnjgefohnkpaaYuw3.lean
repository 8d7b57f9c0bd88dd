/- Walks along the models. Printed by a program. -/
import Derived.Test.YtecnjgefohnkpaaYuw2
namespace Go.Proofs.Ytecnjgefohnkpaa
open Go.RowKit
set_option linter.unusedVariables false
set_option maxRecDepth 20000
set_option maxHeartbeats 2000000
theorem k_upstream_Round (v1 : (List S_api_Instance)) (v2 : Int) (r : ((List Bs) × Int)) (H : m_upstream_Round v1 v2 = some r) : Fn Try.prog 41 [vlst (List.map C_api_Instance v1), vint v2] (resOf [vlst (List.map C_string r.1), vint r.2]) := by
 refine ⟨by kernel_rfl, pure_of (us := [vlst (List.map C_string r.1), vint r.2]) Try.func41 rfl rfl rfl rfl fun X hN => ?_⟩
 unfold m_upstream_Round at H
 refine awp_seq ?_
 refine awp_plain hN rfl ?_
 refine qe rfl ?_
 refine qe rfl ?_
 refine awp_seq ?_
 refine awp_seq ?_
 refine awp_plain hN rfl ?_
 refine qd rfl ?_
 obtain ⟨r3, h4, H⟩ := bnd H
 refine seq_run0 (stp_call (k_upstream_CheckInstances v1 r3 h4) ⟨.inl rfl, trivial⟩) ?_
 refine qe rfl ?_
 refine awp_seq ?_
 refine awp_plain hN rfl ?_
 refine qd rfl ?_
 refine seq_run0 (stp_neq rfl rfl) ?_
 refine awp_cond _ rfl (fun h5 => ?_) (fun h5 => ?_)
 ·replace H := ift h5 H
  refine awp_seq ?_
  refine awp_plain hN rfl ?_
  refine qd rfl ?_
  refine qe rfl ?_
  refine qe rfl ?_
  refine awp_ret ?_
  cases H
  exact ⟨trivial, .inr ⟨rfl, rfl⟩, .inl rfl, trivial⟩
 ·replace H := iff_ h5 H
  refine awp_skip ?_
  refine awp_seq ?_
  refine awp_seq ?_
  refine awp_plain hN rfl ?_
  refine qd rfl ?_
  obtain ⟨r6, h7, H⟩ := bnd H
  refine seq_run0 (stp_call (k_kit_Outside v2 0 2000 r6 h7) ⟨.inl rfl, .inl rfl, .inl rfl, trivial⟩) ?_
  refine awp_cond _ rfl (fun h8 => ?_) (fun h8 => ?_)
  ·replace H := ift h8 H
   refine awp_seq ?_
   refine awp_plain hN rfl ?_
   refine qe rfl ?_
   refine qe rfl ?_
   refine awp_ret ?_
   cases H
   exact ⟨trivial, .inr ⟨rfl, rfl⟩, .inl rfl, trivial⟩
  ·replace H := iff_ h8 H
   refine awp_skip ?_
   refine awp_seq ?_
   refine awp_seq ?_
   refine awp_plain hN rfl ?_
   refine qd rfl ?_
   refine seq_run0 (t_len tyU26 rfl) ?_
   refine seq_run0 (stp_eql rfl rfl) ?_
   refine awp_cond _ rfl (fun h9 => ?_) (fun h9 => ?_)
   ·replace H := ift h9 H
    refine awp_seq ?_
    refine awp_plain hN rfl ?_
    refine qe rfl ?_
    refine qe rfl ?_
    refine awp_ret ?_
    cases H
    exact ⟨trivial, .inr ⟨rfl, rfl⟩, .inl rfl, trivial⟩
   ·replace H := iff_ h9 H
    refine awp_skip ?_
    refine awp_seq ?_
    refine awp_plain hN rfl ?_
    refine qd rfl ?_
    refine seq_run0 (t_len tyU26 rfl) ?_
    obtain ⟨h10, H⟩ := gif H
    refine seq_run2 (t_make (C := C_int) 1 0 tyL22 tyZ3 rfl rfl rfl rfl h10 rfl) rfl ?_
    refine seq_run0 (stp_assign (.row _ _) rfl) ?_
    refine awp_seq ?_
    refine awp_plain hN rfl ?_
    refine qd rfl ?_
    obtain ⟨r11, h12, H⟩ := bnd H
    refine seq_run0 (stp_call (k_upstream_weights v1 r11 h12) ⟨.inl rfl, trivial⟩) ?_
    refine qe rfl ?_
    refine awp_seq ?_
    refine awp_plain hN rfl ?_
    refine qe rfl ?_
    refine awp_seq ?_
    refine awp_seq ?_
    refine awp_plain hN rfl ?_
    refine qd rfl ?_
    refine qd rfl ?_
    refine awp_block ?_
    refine awp_nilrow 9 2 9 1 rfl rfl rfl ?_
    obtain ⟨h17, H⟩ := gif H
    refine awp_rng (fun (k15 : Nat) (s : (List Int) × (List Bs)) => [(0, .dat (vlst (List.map C_api_Instance v1))), (7, .row 1 s.1.length), (8, .dat (vint r11)), (9, .row 2 s.2.length), (28, .dat (vint v2)), (29, .dat (vint (k15 : Int)))]) (fun (k15 : Nat) (s : (List Int) × (List Bs)) => [(1, .row 3 1 (List.map C_int s.1)), (2, .row 9 1 (List.map C_string s.2))]) ((List.replicate v1.length 0), []) H ⟨rfl, congrArg (Slot.row 1) (by simp), rfl, rfl, rfl, rfl, trivial⟩ ⟨rfl, rfl, trivial⟩ (fun _ _ => rfl) ?_ ?_
    ·rintro ⟨l13, l14⟩ H
     replace H : upstream_Round_E1 l13 l14 = some r := H
     unfold upstream_Round_E1 at H
     refine awp_seq ?_
     refine awp_plain hN rfl ?_
     refine seq_run0 (stp_lss rfl rfl) ?_
     refine awp_seq ?_
     refine awp_cond _ rfl (fun h => (lt_tI h).elim) (fun h => ?_)
     refine awp_exit ?_
     refine awp_seq ?_
     refine awp_plain hN rfl ?_
     refine seq_run0 (stp_move (.row _ _) rfl) ?_
     refine seq_run0 (stp_assign (.row _ _) rfl) ?_
     refine qe rfl ?_
     refine awp_ret ?_
     cases H
     exact ⟨trivial, t_slotv rfl rfl, .inl rfl, trivial⟩
    ·rintro k15 ⟨l13, l14⟩ q16 h18 H hq16
     replace H : upstream_Round_L1 v1 r11 k15 l13 l14 = some q16 := H
     unfold upstream_Round_L1 at H
     refine awp_seq ?_
     refine awp_plain hN rfl ?_
     refine seq_run0 (stp_lss rfl rfl) ?_
     refine awp_seq ?_
     refine awp_cond _ rfl (fun h => ?_) (fun h => (lt_fI h18 h).elim)
     refine awp_skip ?_
     refine awp_seq ?_
     refine awp_block ?_
     refine awp_seq ?_
     refine awp_plain hN rfl ?_
     refine qe rfl ?_
     refine awp_seq ?_
     refine awp_seq ?_
     refine awp_plain hN rfl ?_
     refine qd rfl ?_
     refine seq_run0 (t_len tyU26 rfl) ?_
     refine qd rfl ?_
     refine awp_block ?_
     obtain ⟨h23, H⟩ := gif H
     refine awp_forL (fun (k21 : Nat) (s : Int × (List Int)) => [(0, .dat (vlst (List.map C_api_Instance v1))), (7, .row 1 s.2.length), (8, .dat (vint r11)), (9, .row 2 l14.length), (10, .dat (vint s.1)), (28, .dat (vint v2)), (29, .dat (vint (k15 : Int))), (31, .dat (vlst (List.map C_api_Instance v1))), (32, .dat (vint (v1.length : Int))), (33, .dat (vint (k21 : Int)))]) (fun (k21 : Nat) (s : Int × (List Int)) => [(1, .row 3 1 (List.map C_int s.2)), (2, .row 9 1 (List.map C_string l14))]) (0, l13) H ⟨rfl, rfl, rfl, rfl, rfl, rfl, rfl, rfl, rfl, rfl, trivial⟩ ⟨rfl, rfl, trivial⟩ (fun _ _ => rfl) ?_ ?_
     ·rintro ⟨v19, l20⟩ H
      replace H : upstream_Round_E2 v1 r11 l14 v19 l20 = some q16 := H
      unfold upstream_Round_E2 at H
      refine awp_seq ?_
      refine awp_plain hN rfl ?_
      refine seq_run0 (stp_lss rfl rfl) ?_
      refine awp_seq ?_
      refine awp_cond _ rfl (fun h => (lt_t h).elim) (fun h => ?_)
      refine awp_exit ?_
      refine awp_seq ?_
      refine awp_plain hN rfl ?_
      refine seq_run0 (stp_move (.row _ _) rfl) ?_
      refine qd rfl ?_
      obtain ⟨x25, h26, H⟩ := bnd H
      refine seq_run1 (t_idxRI tyE22 rfl rfl rfl h26) rfl ?_
      refine seq_run1 (t_loadR1 tyS3 rfl rfl (at_some h26).2 rfl) rfl ?_
      refine qd rfl ?_
      refine seq_run0 (stp_wrap _ rfl rfl (.inr (.inl ⟨rfl, rfl⟩))) ?_
      refine seq_run1 (t_idxRI tyE22 rfl rfl rfl h26) rfl ?_
      refine seq_run2 (t_storeR (wr (x25 - r11)) tyS3 rfl rfl rfl rfl (at_some h26).2 rfl rfl) rfl ?_
      refine awp_plain hN rfl ?_
      refine seq_run0 (stp_move (.row _ _) rfl) ?_
      refine qd rfl ?_
      refine qd rfl ?_
      obtain ⟨x27, h28, H⟩ := bnd H
      refine seq_run0 (t_idxI tyE26 (fun _ => rfl) rfl rfl h28) ?_
      refine seq_run0 (stp_fldE tyF50_0 rfl) ?_
      refine seq_run0 (stp_loadE1 tyS9 rfl (map_at (at_some h28).2) rfl) ?_
      refine seq_run0 (stp_dat (u' := vlst (List.map C_string [x27.Key])) (stp_lit [[_]] tyL34 ⟨rfl, .inl ⟨_, rfl, rfl, rfl⟩, rfl, trivial⟩ rfl rfl) rfl) ?_
      obtain ⟨h29, H⟩ := gif H
      refine seq_run2 (t_app tyL34 (fun _ => rfl) rfl rfl rfl ⟨by simp, by first | (simp; done) | simpa using h29⟩ rfl) rfl ?_
      refine seq_run0 (stp_assign (.row _ _) rfl) ?_
      refine awp_plain hN rfl ?_
      refine seq_run0 (stp_add rfl rfl (by omega)) ?_
      refine qd rfl ?_
      exact ⟨_, backl H, ⟨rfl, congrArg (Slot.row 1) (by simp), rfl, rfl, rfl, rfl, trivial⟩, ⟨rfl, rfl, trivial⟩⟩
     ·rintro k21 x24 ⟨v19, l20⟩ q22 h30 h31 H hq22
      replace H : upstream_Round_L2 k21 x24 v19 l20 = some q22 := H
      unfold upstream_Round_L2 at H
      refine awp_seq ?_
      refine awp_plain hN rfl ?_
      refine seq_run0 (stp_lss rfl rfl) ?_
      refine awp_seq ?_
      refine awp_cond _ rfl (fun h => ?_) (fun h => (lt_f h30 h).elim)
      refine awp_skip ?_
      refine awp_joinE (ι := Int × (List Int)) (fun i => [(0, .dat (vlst (List.map C_api_Instance v1))), (7, .row 1 i.2.length), (8, .dat (vint r11)), (9, .row 2 l14.length), (10, .dat (vint i.1)), (28, .dat (vint v2)), (29, .dat (vint (k15 : Int))), (31, .dat (vlst (List.map C_api_Instance v1))), (32, .dat (vint (v1.length : Int))), (33, .dat (vint (k21 : Int)))]) (fun i => [(1, .row 3 1 (List.map C_int i.2)), (2, .row 9 1 (List.map C_string l14))]) (fun i => upstream_Round_J3 i.1 i.2 = some q22) (fun i => rfl) ?_ ?_
      ·skip
       refine awp_block ?_
       refine awp_seq ?_
       refine awp_plain hN rfl ?_
       refine qd rfl ?_
       refine seq_run0 (t_idx tyE26 (fun _ => rfl) rfl rfl h31) ?_
       refine seq_run0 (stp_loadEA tyS50 rfl (map_at h31) rfl) ?_
       refine seq_run2 (stp_alloc 3 tyZ50 rfl) rfl ?_
       refine qe rfl ?_
       refine seq_run2 (stp_storeW tyS50 rfl rfl rfl rfl) rfl ?_
       refine awp_seq ?_
       refine awp_draw mixed hN rfl rfl ?_
       refine seq_run0 (stp_move (.row _ _) rfl) ?_
       refine qd rfl ?_
       obtain ⟨x32, h33, H⟩ := bnd H
       refine seq_run1 (t_idxR tyE22 rfl rfl rfl h33) rfl ?_
       refine seq_run1 (t_loadR1 tyS3 rfl rfl h33 rfl) rfl ?_
       refine seq_run0 (stp_fldP tyF50_1 rfl) ?_
       refine seq_run1 (stp_load1 tyS3 rfl rfl) rfl ?_
       refine seq_run0 (stp_wrap _ rfl rfl (.inl ⟨rfl, rfl⟩)) ?_
       refine seq_run1 (t_idxR tyE22 rfl rfl rfl h33) rfl ?_
       refine seq_run2 (t_storeR (wr (x32 + x24.Weight)) tyS3 rfl rfl rfl rfl h33 rfl rfl) rfl ?_
       refine ⟨rfl, ?_⟩
       refine awp_seq ?_
       refine awp_draw mixed hN rfl rfl ?_
       refine seq_run0 (stp_move (.row _ _) rfl) ?_
       refine qd rfl ?_
       obtain ⟨x34, h35, H⟩ := bnd H
       refine seq_run1 (t_idxR tyE22 rfl (by simp) rfl h35) rfl ?_
       refine seq_run1 (t_loadR1 tyS3 rfl (by simp) h35 rfl) rfl ?_
       refine seq_run0 (stp_move (.row _ _) rfl) ?_
       refine qd rfl ?_
       obtain ⟨x36, h37, H⟩ := bnd H
       refine seq_run1 (t_idxRI tyE22 rfl (by simp) rfl h37) rfl ?_
       refine seq_run1 (t_loadR1 tyS3 rfl (by simp) (at_some h37).2 rfl) rfl ?_
       refine seq_run0 (stp_gtr rfl rfl) ?_
       refine ⟨rfl, ?_⟩
       refine awp_cond _ rfl (fun h38 => ?_) (fun h38 => ?_)
       ·replace H := ift h38 H
        refine awp_plain hN rfl ?_
        refine qd rfl ?_
        refine qe rfl ?_
        exact ⟨((k21 : Int), (l20.set k21 (wr (x32 + x24.Weight)))), H, ⟨rfl, congrArg (Slot.row 1) (by simp), rfl, rfl, rfl, rfl, rfl, rfl, rfl, rfl, trivial⟩, ⟨rfl, rfl, trivial⟩⟩
       ·replace H := iff_ h38 H
        refine awp_skip ?_
        exact ⟨(v19, (l20.set k21 (wr (x32 + x24.Weight)))), H, ⟨rfl, congrArg (Slot.row 1) (by simp), rfl, rfl, rfl, rfl, rfl, rfl, rfl, rfl, trivial⟩, ⟨rfl, rfl, trivial⟩⟩
      ·rintro ⟨v39, v40⟩ H
       replace H : upstream_Round_J3 v39 v40 = some q22 := H
       unfold upstream_Round_J3 at H
       refine awp_plain hN rfl ?_
       refine seq_run0 (stp_add rfl rfl (by omega)) ?_
       refine qd rfl ?_
       exact ⟨_, backl H, ⟨rfl, rfl, rfl, rfl, rfl, rfl, rfl, rfl, rfl, rfl, trivial⟩, ⟨rfl, rfl, trivial⟩⟩
theorem k_gatelaw2_balanced  (r : (Bool)) (H : m_gatelaw2_balanced  = some r) : Fn Try.prog 17 [] (resOf [vbool r]) := by
 refine ⟨by kernel_rfl, pure_of (us := [vbool r]) Try.func17 rfl rfl rfl rfl fun X hN => ?_⟩
 unfold m_gatelaw2_balanced at H
 refine awp_seq ?_
 refine awp_plain hN rfl ?_
 refine qe rfl ?_
 refine awp_seq ?_
 refine awp_plain hN rfl ?_
 refine seq_run0 (stp_dat (u' := vagg (C_api_Instance (S_api_Instance.mk [97] 1))) (stp_build [(0, [vstr [97]]), (1, [vint 1])] tyZ50 tyP50 rfl ⟨rfl, .inl ⟨_, rfl, rfl, rfl⟩, rfl, rfl, .inl ⟨_, rfl, rfl, rfl⟩, rfl, trivial⟩) rfl) ?_
 refine seq_run0 (stp_dat (u' := vagg (C_api_Instance (S_api_Instance.mk [98] 2))) (stp_build [(0, [vstr [98]]), (1, [vint 2])] tyZ50 tyP50 rfl ⟨rfl, .inl ⟨_, rfl, rfl, rfl⟩, rfl, rfl, .inl ⟨_, rfl, rfl, rfl⟩, rfl, trivial⟩) rfl) ?_
 refine seq_run0 (stp_dat (u' := vlst (List.map C_api_Instance [(S_api_Instance.mk [97] 1), (S_api_Instance.mk [98] 2)])) (stp_lit [_, _] tyL26 ⟨rfl, .inr rfl, rfl, rfl, .inr rfl, rfl, trivial⟩ rfl rfl) rfl) ?_
 obtain ⟨r1, h2, H⟩ := bnd H
 refine seq_run0 (stp_call (k_upstream_Round ([(S_api_Instance.mk [97] 1), (S_api_Instance.mk [98] 2)]) 3 r1 h2) ⟨.inl rfl, .inl rfl, trivial⟩) ?_
 refine qd rfl ?_
 refine seq_run0 (stp_ext rfl rfl) ?_
 refine seq_run0 (stp_ext rfl rfl) ?_
 refine qe rfl ?_
 refine qe rfl ?_
 refine awp_joinE (ι := Bool) (fun i => [(0, .dat (vbool i))]) (fun i => []) (fun i => gatelaw2_balanced_J1 i = some r) (fun i => rfl) ?_ ?_
 ·skip
  refine awp_plain hN rfl ?_
  refine qd rfl ?_
  refine seq_run0 (stp_eql rfl rfl) ?_
  refine qd rfl ?_
  refine seq_split (j := 2) rfl rfl (fun h3 => ?_) (fun h3 => ?_) rfl
  ·have h4 := un1 h3
   replace H := ift h4 H
   refine seq_g0 rfl rfl h3 (stp_move (.dat _) rfl) ?_
   refine seq_g0 rfl rfl h3 (stp_dat (u' := vlst (List.map C_string [[98], [97], [98]])) (stp_lit [[_], [_], [_]] tyL34 ⟨rfl, .inl ⟨_, rfl, rfl, rfl⟩, rfl, rfl, .inl ⟨_, rfl, rfl, rfl⟩, rfl, rfl, .inl ⟨_, rfl, rfl, rfl⟩, rfl, trivial⟩ rfl rfl) rfl) ?_
   obtain ⟨r5, h6, H⟩ := bnd H
   refine seq_g0 rfl rfl h3 (stp_call (k_slices_Equal_L_string_string_ r1.1 ([[98], [97], [98]]) r5 h6) ⟨.inl rfl, .inl rfl, trivial⟩) ?_
   refine seq_run0 (stp_pick_t rfl (bTT h4) rfl) ?_
   refine qe rfl ?_
   exact ⟨r5, H, ⟨rfl, trivial⟩, trivial⟩
  ·have h7 := un2 h3
   replace H := iff_ h7 H
   refine seq_skip rfl rfl h3 ?_
   refine seq_skip rfl rfl h3 ?_
   refine seq_skip rfl rfl h3 ?_
   refine seq_run0 (stp_pick_f rfl (bFF h7) rfl) ?_
   refine qe rfl ?_
   exact ⟨false, H, ⟨rfl, trivial⟩, trivial⟩
 ·rintro v8 H
  replace H : gatelaw2_balanced_J1 v8 = some r := H
  unfold gatelaw2_balanced_J1 at H
  refine awp_ret ?_
  cases H
  exact ⟨trivial, .inl rfl, trivial⟩
theorem k_gatelaw2_OutliersOut (v1 : (List Int)) (r : (Bool)) (H : m_gatelaw2_OutliersOut v1 = some r) : Fn Try.prog 3 [vlst (List.map C_int v1)] (resOf [vbool r]) := by
 refine ⟨by kernel_rfl, pure_of (us := [vbool r]) Try.func3 rfl rfl rfl rfl fun X hN => ?_⟩
 unfold m_gatelaw2_OutliersOut at H
 refine awp_seq ?_
 refine awp_plain hN rfl ?_
 refine qe rfl ?_
 refine awp_seq ?_
 refine awp_plain hN rfl ?_
 refine qd rfl ?_
 refine seq_run0 (stp_dat (u' := vagg (C_gatemake_Stream (S_gatemake_Stream.mk v1 0))) (stp_build [(0, [vlst (List.map C_int v1)])] tyZ25 tyP25 rfl ⟨rfl, .inl ⟨_, rfl, rfl, rfl⟩, rfl, trivial⟩) rfl) ?_
 refine seq_run2 (stp_boxA 1 rfl) rfl ?_
 refine seq_run0 (stp_assign (.ptr _ _) rfl) ?_
 refine awp_seq ?_
 refine awp_plain hN rfl ?_
 refine seq_run0 (stp_move (.ptr _ _) rfl) ?_
 obtain ⟨r2, h3, H⟩ := bnd H
 refine seq_run2 (stp_imp (k_gatemake_Stream_Instances (S_gatemake_Stream.mk v1 0) r2 h3) rfl trivial rfl) rfl ?_
 refine seq_run0 (stp_move (.ptr _ _) rfl) ?_
 obtain ⟨r4, h5, H⟩ := bnd H
 refine seq_run2 (stp_imp (k_gatemake_Stream_Outliers r2.2 r4 h5) rfl trivial rfl) rfl ?_
 refine seq_run0 (stp_move (.ptr _ _) rfl) ?_
 refine seq_run0 (stp_dat (u' := vlst (List.map C_int [0, 5, 20, 50, 100, (-1)])) (stp_lit [[_], [_], [_], [_], [_], [_]] tyL22 ⟨rfl, .inl ⟨_, rfl, rfl, rfl⟩, rfl, rfl, .inl ⟨_, rfl, rfl, rfl⟩, rfl, rfl, .inl ⟨_, rfl, rfl, rfl⟩, rfl, rfl, .inl ⟨_, rfl, rfl, rfl⟩, rfl, rfl, .inl ⟨_, rfl, rfl, rfl⟩, rfl, rfl, .inl ⟨_, rfl, rfl, rfl⟩, rfl, trivial⟩ rfl rfl) rfl) ?_
 obtain ⟨r6, h7, H⟩ := bnd H
 refine seq_run2 (stp_imp (k_gatemake_Stream_Pick r4.2 [0, 5, 20, 50, 100, (-1)] r6 h7) rfl ⟨.inl rfl, trivial⟩ rfl) rfl ?_
 refine seq_run2 (stp_alloc 2 tyZ29 rfl) rfl ?_
 refine qe rfl ?_
 refine seq_run2 (stp_storeW tyS29 rfl rfl rfl rfl) rfl ?_
 refine qe rfl ?_
 refine awp_seq ?_
 refine awp_plain hN rfl ?_
 refine seq_run0 (stp_move (.ptr _ _) rfl) ?_
 refine qd rfl ?_
 obtain ⟨r8, h9, H⟩ := bnd H
 refine seq_run2 (stp_imp (k_gatemake_Stream_Results r6.2 r2.1 r8 h9) rfl ⟨.inl rfl, trivial⟩ rfl) rfl ?_
 refine qe rfl ?_
 refine awp_seq ?_
 refine awp_plain hN rfl ?_
 refine qd rfl ?_
 refine seq_run1 (stp_loadA tyS29 rfl rfl rfl) rfl ?_
 refine qd rfl ?_
 refine qd rfl ?_
 obtain ⟨r10, h11, H⟩ := bnd H
 refine seq_run0 (stp_call (k_upstream_Out r2.1 r4.1 r8.1 r6.1 r10 h11) ⟨.inl rfl, .inl rfl, .inl rfl, .inl rfl, trivial⟩) ?_
 refine qd rfl ?_
 refine seq_run0 (stp_ext rfl rfl) ?_
 refine seq_run0 (stp_ext rfl rfl) ?_
 refine qe rfl ?_
 refine qe rfl ?_
 refine awp_seq ?_
 refine awp_plain hN rfl ?_
 refine qd rfl ?_
 obtain ⟨r12, h13, H⟩ := bnd H
 refine seq_run0 (stp_call (k_gateref2_InstancesFault r2.1 r12 h13) ⟨.inl rfl, trivial⟩) ?_
 refine qe rfl ?_
 refine awp_seq ?_
 refine awp_seq ?_
 refine awp_plain hN rfl ?_
 refine qd rfl ?_
 refine qd rfl ?_
 obtain ⟨r14, h15, H⟩ := bnd H
 refine seq_run0 (stp_call (k_upstream_CheckResults r2.1 r8.1 r14 h15) ⟨.inl rfl, .inl rfl, trivial⟩) ?_
 refine qd rfl ?_
 refine qd rfl ?_
 refine qd rfl ?_
 obtain ⟨r16, h17, H⟩ := bnd H
 refine seq_run0 (stp_call (k_gateref2_ResultsFault r2.1 r8.1 r16 h17) ⟨.inl rfl, .inl rfl, trivial⟩) ?_
 refine seq_run0 (stp_dat (u' := vlst (List.map C_api_Errno [r12, r16])) (stp_lit [[_], [_]] tyL67 ⟨rfl, .inl ⟨_, rfl, rfl, rfl⟩, rfl, rfl, .inl ⟨_, rfl, rfl, rfl⟩, rfl, trivial⟩ rfl rfl) rfl) ?_
 obtain ⟨r18, h19, H⟩ := bnd H
 refine seq_run0 (stp_call (k_gatelaw2_errs [r12, r16] r18 h19) ⟨.inl rfl, trivial⟩) ?_
 refine seq_run0 (stp_neq rfl rfl) ?_
 refine awp_cond _ rfl (fun h20 => ?_) (fun h20 => ?_)
 ·replace H := ift h20 H
  refine awp_seq ?_
  refine awp_plain hN rfl ?_
  refine qe rfl ?_
  refine awp_ret ?_
  cases H
  exact ⟨trivial, .inl rfl, trivial⟩
 ·replace H := iff_ h20 H
  refine awp_skip ?_
  refine awp_seq ?_
  refine awp_plain hN rfl ?_
  refine qd rfl ?_
  refine seq_run1 (stp_loadA tyS29 rfl rfl rfl) rfl ?_
  obtain ⟨r21, h22, H⟩ := bnd H
  refine seq_run0 (stp_call (k_gateref2_OutliersFault r4.1 r21 h22) ⟨.inl rfl, trivial⟩) ?_
  refine seq_run0 (stp_dat (u' := vlst (List.map C_api_Errno [r12, r21])) (stp_lit [[_], [_]] tyL67 ⟨rfl, .inl ⟨_, rfl, rfl, rfl⟩, rfl, rfl, .inl ⟨_, rfl, rfl, rfl⟩, rfl, trivial⟩ rfl rfl) rfl) ?_
  obtain ⟨r23, h24, H⟩ := bnd H
  refine seq_run0 (stp_call (k_gatelaw2_errs [r12, r21] r23 h24) ⟨.inl rfl, trivial⟩) ?_
  refine qe rfl ?_
  refine awp_joinE (ι := Int) (fun i => [(4, .dat (vlst (List.map C_api_Instance r2.1))), (5, .ptr 2 0), (6, .dat (vint r6.1)), (7, .dat (vlst (List.map C_api_Result r8.1))), (8, .dat (vlst (List.map C_string r10.1))), (9, .dat (vint r10.2)), (10, .dat (vint i))]) (fun i => [(2, .box none 29 [.dat (vint r4.1.Fails), .dat (vint r4.1.Base), .dat (vint r4.1.Most), .dat (vint r4.1.Share)])]) (fun i => gatelaw2_OutliersOut_J1 r2 r4 r6 r8 r10 i = some r) (fun i => rfl) ?_ ?_
  ·skip
   refine awp_seq ?_
   refine awp_plain hN rfl ?_
   refine qd rfl ?_
   refine seq_run0 (stp_eql rfl rfl) ?_
   refine awp_cond _ rfl (fun h25 => ?_) (fun h25 => ?_)
   ·replace H := ift h25 H
    refine awp_plain hN rfl ?_
    refine qd rfl ?_
    refine qd rfl ?_
    obtain ⟨r26, h27, H⟩ := bnd H
    refine seq_run0 (stp_call (k_gateref2_ResultsFault r2.1 r8.1 r26 h27) ⟨.inl rfl, .inl rfl, trivial⟩) ?_
    refine qd rfl ?_
    obtain ⟨r28, h29, H⟩ := bnd H
    refine seq_run0 (stp_call (k_gatelaw2_momentFault r6.1 r28 h29) ⟨.inl rfl, trivial⟩) ?_
    refine seq_run0 (stp_dat (u' := vlst (List.map C_api_Errno [r26, r28])) (stp_lit [[_], [_]] tyL67 ⟨rfl, .inl ⟨_, rfl, rfl, rfl⟩, rfl, rfl, .inl ⟨_, rfl, rfl, rfl⟩, rfl, trivial⟩ rfl rfl) rfl) ?_
    obtain ⟨r30, h31, H⟩ := bnd H
    refine seq_run0 (stp_call (k_gatelaw2_errs [r26, r28] r30 h31) ⟨.inl rfl, trivial⟩) ?_
    refine qe rfl ?_
    exact ⟨r30, H, ⟨rfl, rfl, rfl, rfl, rfl, rfl, rfl, trivial⟩, ⟨rfl, trivial⟩⟩
   ·replace H := iff_ h25 H
    refine awp_skip ?_
    exact ⟨r23, H, ⟨rfl, rfl, rfl, rfl, rfl, rfl, rfl, trivial⟩, ⟨rfl, trivial⟩⟩
  ·rintro v32 H
   replace H : gatelaw2_OutliersOut_J1 r2 r4 r6 r8 r10 v32 = some r := H
   unfold gatelaw2_OutliersOut_J1 at H
   refine awp_seq ?_
   refine awp_plain hN rfl ?_
   refine qe rfl ?_
   refine awp_joinW (ι := (List Bs)) (fun i => [(8, .dat (vlst (List.map C_string r10.1))), (9, .dat (vint r10.2)), (10, .dat (vint v32)), (11, .dat (vlst (List.map C_string i)))]) (fun i => []) (fun i => gatelaw2_OutliersOut_J2 r10 v32 i = some r) (fun i => rfl) (fun i => rfl) ?_ ?_
   ·skip
    refine awp_seq ?_
    refine awp_plain hN rfl ?_
    refine qd rfl ?_
    refine seq_run0 (stp_eql rfl rfl) ?_
    refine awp_cond _ rfl (fun h33 => ?_) (fun h33 => ?_)
    ·replace H := ift h33 H
     refine awp_plain hN rfl ?_
     refine qd rfl ?_
     refine seq_run1 (stp_loadA tyS29 rfl rfl rfl) rfl ?_
     refine qd rfl ?_
     refine qd rfl ?_
     obtain ⟨r34, h35, H⟩ := bnd H
     refine seq_run0 (stp_call (k_gateref2_OutOf r2.1 r4.1 r8.1 r6.1 r34 h35) ⟨.inl rfl, .inl rfl, .inl rfl, .inl rfl, trivial⟩) ?_
     refine qe rfl ?_
     exact ⟨r34, H, ⟨.inl rfl, .inl rfl, .inl rfl, .inl rfl, trivial⟩, trivial⟩
    ·replace H := iff_ h33 H
     refine awp_skip ?_
     exact ⟨[], H, ⟨.inl rfl, .inl rfl, .inl rfl, .inr ⟨rfl, rfl⟩, trivial⟩, trivial⟩
   ·rintro v36 H
    replace H : gatelaw2_OutliersOut_J2 r10 v32 v36 = some r := H
    unfold gatelaw2_OutliersOut_J2 at H
    refine awp_joinE (ι := Bool) (fun i => [(2, .dat (vbool i))]) (fun i => []) (fun i => gatelaw2_OutliersOut_J3 i = some r) (fun i => rfl) ?_ ?_
    ·skip
     refine awp_plain hN rfl ?_
     refine qd rfl ?_
     refine qd rfl ?_
     refine seq_run0 (stp_eql rfl rfl) ?_
     refine qd rfl ?_
     refine seq_split (j := 3) rfl rfl (fun h37 => ?_) (fun h37 => ?_) rfl
     ·have h38 := un1 h37
      replace H := ift h38 H
      refine seq_g0 rfl rfl h37 (stp_move (.dat _) rfl) ?_
      refine seq_g0 rfl rfl h37 (stp_move (.dat _) rfl) ?_
      obtain ⟨r39, h40, H⟩ := bnd H
      refine seq_g0 rfl rfl h37 (stp_call (k_slices_Equal_L_string_string_ r10.1 v36 r39 h40) ⟨.inl rfl, .inl rfl, trivial⟩) ?_
      refine seq_run0 (stp_pick_t rfl (bTT h38) rfl) ?_
      refine qd rfl ?_
      refine seq_split (j := 8) rfl rfl (fun h41 => ?_) (fun h41 => ?_) rfl
      ·have h42 := un1 h41
       replace H := ift h42 H
       obtain ⟨r43, h44, H⟩ := bnd H
       refine seq_g0 rfl rfl h41 (stp_call (k_gatelaw2_balanced  r43 h44) trivial) ?_
       refine seq_run0 (stp_pick_t rfl (bTT h42) rfl) ?_
       refine qe rfl ?_
       exact ⟨r43, H, ⟨rfl, trivial⟩, trivial⟩
      ·have h45 := un2 h41
       replace H := iff_ h45 H
       refine seq_skip rfl rfl h41 ?_
       refine seq_run0 (stp_pick_f rfl (bFF h45) rfl) ?_
       refine qe rfl ?_
       exact ⟨false, H, ⟨rfl, trivial⟩, trivial⟩
     ·have h46 := un2 h37
      replace H := iff_ h46 H
      refine seq_skip rfl rfl h37 ?_
      refine seq_skip rfl rfl h37 ?_
      refine seq_skip rfl rfl h37 ?_
      refine seq_run0 (stp_pick_f rfl (bFF h46) rfl) ?_
      refine qd rfl ?_
      refine seq_skip rfl rfl rfl ?_
      refine seq_run0 (stp_pick_f rfl rfl rfl) ?_
      refine qe rfl ?_
      exact ⟨false, H, ⟨rfl, trivial⟩, trivial⟩
    ·rintro v47 H
     replace H : gatelaw2_OutliersOut_J3 v47 = some r := H
     unfold gatelaw2_OutliersOut_J3 at H
     refine awp_ret ?_
     cases H
     exact ⟨trivial, .inl rfl, trivial⟩
end Go.Proofs.Ytecnjgefohnkpaa
