/- Walks along the models. Printed by a program. -/
import Derived.Test.YtmlbmkfbleicaaaYjw1
namespace Go.Proofs.Ytmlbmkfbleicaaa
open Go.RowKit
set_option linter.unusedVariables false
set_option maxRecDepth 20000
set_option maxHeartbeats 2000000
theorem k_strings_IndexByte (l : Bs) (c r : Int) (H : m_strings_IndexByte l c = some r) : Fn Try.prog 47 [vstr l, vval (.int .u8 c)] (resOf [vint r]) := by
 cases H
 refine fn_of_calls (by kernel_rfl) fun M w vs h => ?_
 have h1 := Ts_vals (us := [.string ⟨l.toArray⟩, .int .u8 c]) h
 subst h1
 refine (Try.strings_IndexByte ⟨l.toArray⟩ c w).mono ?_
 rintro e w' ⟨rfl, rfl⟩
 exact ⟨_, rfl, rfl, Kp.refl _ _⟩
theorem k_gateref2_only (s1 : Bs) (some2 : Bs) (r : (Bool)) (H : m_gateref2_only s1 some2 = some r) : Fn Try.prog 37 [vstr s1, vstr some2] (resOf [vbool r]) := by
 refine ⟨by kernel_rfl, pure_of (us := [vbool r]) Try.func37 rfl rfl rfl rfl fun X hN => ?_⟩
 unfold m_gateref2_only at H
 refine awp_seq ?_
 refine awp_plain hN rfl ?_
 refine qe rfl ?_
 refine awp_seq ?_
 refine awp_seq ?_
 refine awp_plain hN rfl ?_
 refine qd rfl ?_
 refine seq_run0 (stp_len_str tyU9 rfl) ?_
 refine qd rfl ?_
 refine awp_block ?_
 obtain ⟨h5, H⟩ := gif H
 refine awp_forL (fun (k3 : Nat) (s : Unit) => [(0, .dat (vstr s1)), (1, .dat (vstr some2)), (7, .dat (vint (s1.length : Int))), (8, .dat (vint (k3 : Int)))]) (fun (k3 : Nat) (s : Unit) => []) () H ⟨rfl, rfl, rfl, rfl, trivial⟩ trivial (fun _ _ => rfl) ?_ ?_
 ·rintro ⟨⟩ H
  replace H : gateref2_only_E1 = some r := H
  unfold gateref2_only_E1 at H
  refine awp_seq ?_
  refine awp_plain hN rfl ?_
  refine seq_run0 (stp_lss rfl rfl) ?_
  refine awp_seq ?_
  refine awp_cond _ rfl (fun h => (lt_t h).elim) (fun h => ?_)
  refine awp_exit ?_
  refine awp_seq ?_
  refine awp_plain hN rfl ?_
  refine qe rfl ?_
  refine awp_ret ?_
  cases H
  exact ⟨trivial, .inl rfl, trivial⟩
 ·rintro k3 x6 ⟨⟩ q4 h7 h8 H hq4
  replace H : gateref2_only_L1 some2 k3 x6 = some q4 := H
  unfold gateref2_only_L1 at H
  refine awp_seq ?_
  refine awp_plain hN rfl ?_
  refine seq_run0 (stp_lss rfl rfl) ?_
  refine awp_seq ?_
  refine awp_cond _ rfl (fun h => ?_) (fun h => (lt_f h7 h).elim)
  refine awp_skip ?_
  refine awp_seq ?_
  refine awp_block ?_
  refine awp_seq ?_
  refine awp_plain hN rfl ?_
  refine qd rfl ?_
  refine qe rfl ?_
  refine awp_seq ?_
  refine awp_plain hN rfl ?_
  refine qd rfl ?_
  refine qd rfl ?_
  refine qd rfl ?_
  refine seq_run0 (t_byte tyU9 rfl rfl h8) ?_
  obtain ⟨r9, h10, H⟩ := bnd H
  refine seq_run0 (stp_call (k_strings_IndexByte some2 (x6.toNat : Int) r9 h10) ⟨.inl rfl, .inl rfl, trivial⟩) ?_
  refine seq_run0 (stp_lss rfl rfl) ?_
  refine awp_cond _ rfl (fun h11 => ?_) (fun h11 => ?_)
  ·replace H := ift h11 H
   refine awp_seq ?_
   refine awp_plain hN rfl ?_
   refine qe rfl ?_
   refine awp_ret ?_
   replace H := retl H hq4
   cases H
   exact ⟨trivial, .inl rfl, trivial⟩
  ·replace H := iff_ h11 H
   refine awp_skip ?_
   refine awp_plain hN rfl ?_
   refine seq_run0 (stp_add rfl rfl (by omega)) ?_
   refine qd rfl ?_
   exact ⟨_, backl H, ⟨rfl, rfl, rfl, rfl, trivial⟩, trivial⟩
theorem k_gateref2_Key (s1 : Bs) (r : (Bool)) (H : m_gateref2_Key s1 = some r) : Fn Try.prog 22 [vstr s1] (resOf [vbool r]) := by
 refine ⟨by kernel_rfl, pure_of (us := [vbool r]) Try.func22 rfl rfl rfl rfl fun X hN => ?_⟩
 unfold m_gateref2_Key at H
 refine awp_seq ?_
 refine awp_plain hN rfl ?_
 refine qe rfl ?_
 refine awp_joinE (ι := Bool) (fun i => [(2, .dat (vbool i))]) (fun i => []) (fun i => gateref2_Key_J1 i = some r) (fun i => rfl) ?_ ?_
 ·skip
  refine awp_plain hN rfl ?_
  refine qd rfl ?_
  refine seq_run0 (stp_len_str tyU9 rfl) ?_
  obtain ⟨r2, h3, H⟩ := bnd H
  refine seq_run0 (stp_call (k_gateref2_in (s1.length : Int) 1 40 r2 h3) ⟨.inl rfl, .inl rfl, .inl rfl, trivial⟩) ?_
  refine qd rfl ?_
  refine seq_split (j := 3) rfl rfl (fun h4 => ?_) (fun h4 => ?_) rfl
  ·have h5 := un1 h4
   replace H := ift h5 H
   refine seq_g0 rfl rfl h4 (stp_move (.dat _) rfl) ?_
   obtain ⟨l6, h7, H⟩ := bnd H
   refine seq_g0 rfl rfl h4 (t_subS tyU9 rfl rfl rfl h7) ?_
   obtain ⟨r8, h9, H⟩ := bnd H
   refine seq_g0 rfl rfl h4 (stp_call (k_gateref2_only l6 [97, 98, 99, 100, 101, 102, 103, 104, 105, 106, 107, 108, 109, 110, 111, 112, 113, 114, 115, 116, 117, 118, 119, 120, 121, 122] r8 h9) ⟨.inl rfl, .inl rfl, trivial⟩) ?_
   refine seq_run0 (stp_pick_t rfl (bTT h5) rfl) ?_
   refine qd rfl ?_
   refine seq_split (j := 8) rfl rfl (fun h10 => ?_) (fun h10 => ?_) rfl
   ·have h11 := un1 h10
    replace H := ift h11 H
    refine seq_g0 rfl rfl h10 (stp_move (.dat _) rfl) ?_
    obtain ⟨r12, h13, H⟩ := bnd H
    refine seq_g0 rfl rfl h10 (stp_call (k_gateref2_only s1 [97, 98, 99, 100, 101, 102, 103, 104, 105, 106, 107, 108, 109, 110, 111, 112, 113, 114, 115, 116, 117, 118, 119, 120, 121, 122, 48, 49, 50, 51, 52, 53, 54, 55, 56, 57, 45, 95] r12 h13) ⟨.inl rfl, .inl rfl, trivial⟩) ?_
    refine seq_run0 (stp_pick_t rfl (bTT h11) rfl) ?_
    refine qe rfl ?_
    exact ⟨r12, H, ⟨rfl, trivial⟩, trivial⟩
   ·have h14 := un2 h10
    replace H := iff_ h14 H
    refine seq_skip rfl rfl h10 ?_
    refine seq_skip rfl rfl h10 ?_
    refine seq_run0 (stp_pick_f rfl (bFF h14) rfl) ?_
    refine qe rfl ?_
    exact ⟨false, H, ⟨rfl, trivial⟩, trivial⟩
  ·have h15 := un2 h4
   replace H := iff_ h15 H
   refine seq_skip rfl rfl h4 ?_
   refine seq_skip rfl rfl h4 ?_
   refine seq_skip rfl rfl h4 ?_
   refine seq_run0 (stp_pick_f rfl (bFF h15) rfl) ?_
   refine qd rfl ?_
   refine seq_skip rfl rfl rfl ?_
   refine seq_skip rfl rfl rfl ?_
   refine seq_run0 (stp_pick_f rfl rfl rfl) ?_
   refine qe rfl ?_
   exact ⟨false, H, ⟨rfl, trivial⟩, trivial⟩
 ·rintro v16 H
  replace H : gateref2_Key_J1 v16 = some r := H
  unfold gateref2_Key_J1 at H
  refine awp_ret ?_
  cases H
  exact ⟨trivial, .inl rfl, trivial⟩
theorem k_gateref2_InstancesFault (l1 : (List S_api_Instance)) (r : (Int)) (H : m_gateref2_InstancesFault l1 = some r) : Fn Try.prog 10 [vlst (List.map C_api_Instance l1)] (resOf [vint r]) := by
 refine ⟨by kernel_rfl, pure_of (us := [vint r]) Try.func10 rfl rfl rfl rfl fun X hN => ?_⟩
 unfold m_gateref2_InstancesFault at H
 refine awp_seq ?_
 refine awp_plain hN rfl ?_
 refine qe rfl ?_
 refine awp_seq ?_
 refine awp_seq ?_
 refine awp_plain hN rfl ?_
 refine qd rfl ?_
 refine seq_run0 (t_len tyU26 rfl) ?_
 refine seq_run0 (stp_gtr rfl rfl) ?_
 refine awp_cond _ rfl (fun h2 => ?_) (fun h2 => ?_)
 ·replace H := ift h2 H
  refine awp_seq ?_
  refine awp_plain hN rfl ?_
  refine qe rfl ?_
  refine awp_ret ?_
  cases H
  exact ⟨trivial, .inl rfl, trivial⟩
 ·replace H := iff_ h2 H
  refine awp_skip ?_
  refine awp_seq ?_
  refine awp_plain hN rfl ?_
  refine qe rfl ?_
  refine awp_seq ?_
  refine awp_seq ?_
  refine awp_plain hN rfl ?_
  refine qd rfl ?_
  refine seq_run0 (t_len tyU26 rfl) ?_
  refine qd rfl ?_
  refine awp_block ?_
  obtain ⟨h6, H⟩ := gif H
  refine awp_forL (fun (k4 : Nat) (s : Bs) => [(3, .dat (vstr s)), (9, .dat (vlst (List.map C_api_Instance l1))), (10, .dat (vint (l1.length : Int))), (11, .dat (vint (k4 : Int)))]) (fun (k4 : Nat) (s : Bs) => []) [] H ⟨rfl, rfl, rfl, rfl, trivial⟩ trivial (fun _ _ => rfl) ?_ ?_
  ·rintro last3 H
   replace H : gateref2_InstancesFault_E1 last3 = some r := H
   unfold gateref2_InstancesFault_E1 at H
   refine awp_seq ?_
   refine awp_plain hN rfl ?_
   refine seq_run0 (stp_lss rfl rfl) ?_
   refine awp_seq ?_
   refine awp_cond _ rfl (fun h => (lt_t h).elim) (fun h => ?_)
   refine awp_exit ?_
   refine awp_seq ?_
   refine awp_plain hN rfl ?_
   refine qe rfl ?_
   refine awp_ret ?_
   cases H
   exact ⟨trivial, .inl rfl, trivial⟩
  ·rintro k4 x7 last3 q5 h8 h9 H hq5
   replace H : gateref2_InstancesFault_L1 k4 x7 last3 = some q5 := H
   unfold gateref2_InstancesFault_L1 at H
   refine awp_seq ?_
   refine awp_plain hN rfl ?_
   refine seq_run0 (stp_lss rfl rfl) ?_
   refine awp_seq ?_
   refine awp_cond _ rfl (fun h => ?_) (fun h => (lt_f h8 h).elim)
   refine awp_skip ?_
   refine awp_seq ?_
   refine awp_block ?_
   refine awp_seq ?_
   refine awp_plain hN rfl ?_
   refine seq_run0 (t_idx tyE26 (fun _ => rfl) rfl rfl h9) ?_
   refine seq_run0 (stp_loadEA tyS45 rfl (map_at h9) rfl) ?_
   refine seq_run2 (stp_alloc 1 tyZ45 rfl) rfl ?_
   refine seq_run2 (stp_storeW tyS45 rfl rfl rfl rfl) rfl ?_
   refine awp_seq ?_
   refine awp_block ?_
   refine awp_seq ?_
   refine awp_plain hN rfl ?_
   refine seq_run0 (stp_fldP tyF45_0 rfl) ?_
   refine seq_run1 (stp_load1 tyS9 rfl rfl) rfl ?_
   obtain ⟨r10, h11, H⟩ := bnd H
   refine seq_run0 (stp_call (k_gateref2_Key x7.Key r10 h11) ⟨.inl rfl, trivial⟩) ?_
   refine seq_run0 (stp_not rfl) ?_
   refine qe rfl ?_
   refine awp_cond _ rfl (fun h12 => ?_) (fun h12 => ?_)
   ·replace H := ift h12 H
    refine awp_seq ?_
    refine awp_plain hN rfl ?_
    refine qe rfl ?_
    refine awp_ret ?_
    replace H := retl H hq5
    cases H
    exact ⟨trivial, .inl rfl, trivial⟩
   ·replace H := iff_ h12 H
    refine awp_seq ?_
    refine awp_plain hN rfl ?_
    refine seq_run0 (stp_fldP tyF45_0 rfl) ?_
    refine seq_run1 (stp_load1 tyS9 rfl rfl) rfl ?_
    refine qd rfl ?_
    refine seq_run0 (stp_sleq rfl rfl) ?_
    refine qe rfl ?_
    refine awp_cond _ rfl (fun h13 => ?_) (fun h13 => ?_)
    ·replace H := ift h13 H
     refine awp_seq ?_
     refine awp_plain hN rfl ?_
     refine qe rfl ?_
     refine awp_ret ?_
     replace H := retl H hq5
     cases H
     exact ⟨trivial, .inl rfl, trivial⟩
    ·replace H := iff_ h13 H
     refine awp_seq ?_
     refine awp_plain hN rfl ?_
     refine seq_run0 (stp_fldP tyF45_1 rfl) ?_
     refine seq_run1 (stp_load1 tyS3 rfl rfl) rfl ?_
     obtain ⟨r14, h15, H⟩ := bnd H
     refine seq_run0 (stp_call (k_gateref2_in x7.Weight 1 100 r14 h15) ⟨.inl rfl, .inl rfl, .inl rfl, trivial⟩) ?_
     refine seq_run0 (stp_not rfl) ?_
     refine qe rfl ?_
     refine awp_cond _ rfl (fun h16 => ?_) (fun h16 => ?_)
     ·replace H := ift h16 H
      refine awp_seq ?_
      refine awp_plain hN rfl ?_
      refine qe rfl ?_
      refine awp_ret ?_
      replace H := retl H hq5
      cases H
      exact ⟨trivial, .inl rfl, trivial⟩
     ·replace H := iff_ h16 H
      refine awp_skip ?_
      refine awp_plain hN rfl ?_
      refine seq_run0 (stp_fldP tyF45_0 rfl) ?_
      refine seq_run1 (stp_load1 tyS9 rfl rfl) rfl ?_
      refine qe rfl ?_
      refine awp_plain hN rfl ?_
      refine seq_run0 (stp_add rfl rfl (by omega)) ?_
      refine qd rfl ?_
      exact ⟨_, backl H, ⟨rfl, rfl, rfl, rfl, trivial⟩, trivial⟩
theorem k_gatelaw2_errs (l1 : (List Int)) (r : (Int)) (H : m_gatelaw2_errs l1 = some r) : Fn Try.prog 9 [vlst (List.map C_api_Errno l1)] (resOf [vint r]) := by
 refine ⟨by kernel_rfl, pure_of (us := [vint r]) Try.func9 rfl rfl rfl rfl fun X hN => ?_⟩
 unfold m_gatelaw2_errs at H
 refine awp_seq ?_
 refine awp_plain hN rfl ?_
 refine qe rfl ?_
 refine awp_seq ?_
 refine awp_seq ?_
 refine awp_plain hN rfl ?_
 refine qd rfl ?_
 refine seq_run0 (t_len tyU49 rfl) ?_
 refine qd rfl ?_
 refine awp_block ?_
 obtain ⟨h4, H⟩ := gif H
 refine awp_forL (fun (k2 : Nat) (s : Unit) => [(5, .dat (vlst (List.map C_api_Errno l1))), (6, .dat (vint (l1.length : Int))), (7, .dat (vint (k2 : Int)))]) (fun (k2 : Nat) (s : Unit) => []) () H ⟨rfl, rfl, rfl, trivial⟩ trivial (fun _ _ => rfl) ?_ ?_
 ·rintro ⟨⟩ H
  replace H : gatelaw2_errs_E1 = some r := H
  unfold gatelaw2_errs_E1 at H
  refine awp_seq ?_
  refine awp_plain hN rfl ?_
  refine seq_run0 (stp_lss rfl rfl) ?_
  refine awp_seq ?_
  refine awp_cond _ rfl (fun h => (lt_t h).elim) (fun h => ?_)
  refine awp_exit ?_
  refine awp_seq ?_
  refine awp_plain hN rfl ?_
  refine qe rfl ?_
  refine awp_ret ?_
  cases H
  exact ⟨trivial, .inl rfl, trivial⟩
 ·rintro k2 x5 ⟨⟩ q3 h6 h7 H hq3
  replace H : gatelaw2_errs_L1 k2 x5 = some q3 := H
  unfold gatelaw2_errs_L1 at H
  refine awp_seq ?_
  refine awp_plain hN rfl ?_
  refine seq_run0 (stp_lss rfl rfl) ?_
  refine awp_seq ?_
  refine awp_cond _ rfl (fun h => ?_) (fun h => (lt_f h6 h).elim)
  refine awp_skip ?_
  refine awp_seq ?_
  refine awp_block ?_
  refine awp_seq ?_
  refine awp_plain hN rfl ?_
  refine seq_run0 (t_idx tyE49 (fun _ => rfl) rfl rfl h7) ?_
  refine seq_run0 (stp_loadE1 tyS32 rfl (map_at h7) rfl) ?_
  refine qe rfl ?_
  refine awp_seq ?_
  refine awp_plain hN rfl ?_
  refine qd rfl ?_
  refine seq_run0 (stp_neq rfl rfl) ?_
  refine awp_cond _ rfl (fun h8 => ?_) (fun h8 => ?_)
  ·replace H := ift h8 H
   refine awp_seq ?_
   refine awp_plain hN rfl ?_
   refine qd rfl ?_
   refine qe rfl ?_
   refine awp_ret ?_
   replace H := retl H hq3
   cases H
   exact ⟨trivial, .inl rfl, trivial⟩
  ·replace H := iff_ h8 H
   refine awp_skip ?_
   refine awp_plain hN rfl ?_
   refine seq_run0 (stp_add rfl rfl (by omega)) ?_
   refine qd rfl ?_
   exact ⟨_, backl H, ⟨rfl, rfl, rfl, trivial⟩, trivial⟩
theorem k_gatelaw2_when (is1 : Bool) (e2 : Int) (r : (Int)) (H : m_gatelaw2_when is1 e2 = some r) : Fn Try.prog 12 [vbool is1, vint e2] (resOf [vint r]) := by
 refine ⟨by kernel_rfl, pure_of (us := [vint r]) Try.func12 rfl rfl rfl rfl fun X hN => ?_⟩
 unfold m_gatelaw2_when at H
 refine awp_seq ?_
 refine awp_plain hN rfl ?_
 refine qe rfl ?_
 refine awp_seq ?_
 refine awp_seq ?_
 refine awp_plain hN rfl ?_
 refine qd rfl ?_
 refine awp_cond _ rfl (fun h3 => ?_) (fun h3 => ?_)
 ·replace H := ift h3 H
  refine awp_seq ?_
  refine awp_plain hN rfl ?_
  refine qd rfl ?_
  refine qe rfl ?_
  refine awp_ret ?_
  cases H
  exact ⟨trivial, .inl rfl, trivial⟩
 ·replace H := iff_ h3 H
  refine awp_skip ?_
  refine awp_seq ?_
  refine awp_plain hN rfl ?_
  refine qe rfl ?_
  refine awp_ret ?_
  cases H
  exact ⟨trivial, .inl rfl, trivial⟩
theorem k_upstream_weights (l1 : (List S_api_Instance)) (r : (Int)) (H : m_upstream_weights l1 = some r) : Fn Try.prog 38 [vlst (List.map C_api_Instance l1)] (resOf [vint r]) := by
 refine ⟨by kernel_rfl, pure_of (us := [vint r]) Try.func38 rfl rfl rfl rfl fun X hN => ?_⟩
 unfold m_upstream_weights at H
 refine awp_seq ?_
 refine awp_plain hN rfl ?_
 refine qe rfl ?_
 refine awp_seq ?_
 refine awp_plain hN rfl ?_
 refine qe rfl ?_
 refine awp_seq ?_
 refine awp_seq ?_
 refine awp_plain hN rfl ?_
 refine qd rfl ?_
 refine seq_run0 (t_len tyU26 rfl) ?_
 refine qd rfl ?_
 refine awp_block ?_
 obtain ⟨h5, H⟩ := gif H
 refine awp_forL (fun (k3 : Nat) (s : Int) => [(3, .dat (vint s)), (6, .dat (vlst (List.map C_api_Instance l1))), (7, .dat (vint (l1.length : Int))), (8, .dat (vint (k3 : Int)))]) (fun (k3 : Nat) (s : Int) => []) 0 H ⟨rfl, rfl, rfl, rfl, trivial⟩ trivial (fun _ _ => rfl) ?_ ?_
 ·rintro sum2 H
  replace H : upstream_weights_E1 sum2 = some r := H
  unfold upstream_weights_E1 at H
  refine awp_seq ?_
  refine awp_plain hN rfl ?_
  refine seq_run0 (stp_lss rfl rfl) ?_
  refine awp_seq ?_
  refine awp_cond _ rfl (fun h => (lt_t h).elim) (fun h => ?_)
  refine awp_exit ?_
  refine awp_seq ?_
  refine awp_plain hN rfl ?_
  refine qd rfl ?_
  refine qe rfl ?_
  refine awp_ret ?_
  cases H
  exact ⟨trivial, .inl rfl, trivial⟩
 ·rintro k3 x6 sum2 q4 h7 h8 H hq4
  replace H : upstream_weights_L1 k3 x6 sum2 = some q4 := H
  unfold upstream_weights_L1 at H
  refine awp_seq ?_
  refine awp_plain hN rfl ?_
  refine seq_run0 (stp_lss rfl rfl) ?_
  refine awp_seq ?_
  refine awp_cond _ rfl (fun h => ?_) (fun h => (lt_f h7 h).elim)
  refine awp_skip ?_
  refine awp_seq ?_
  refine awp_block ?_
  refine awp_seq ?_
  refine awp_plain hN rfl ?_
  refine seq_run0 (t_idx tyE26 (fun _ => rfl) rfl rfl h8) ?_
  refine seq_run0 (stp_loadEA tyS45 rfl (map_at h8) rfl) ?_
  refine seq_run2 (stp_alloc 1 tyZ45 rfl) rfl ?_
  refine seq_run2 (stp_storeW tyS45 rfl rfl rfl rfl) rfl ?_
  refine awp_plain hN rfl ?_
  refine qd rfl ?_
  refine seq_run0 (stp_fldP tyF45_1 rfl) ?_
  refine seq_run1 (stp_load1 tyS3 rfl rfl) rfl ?_
  refine seq_run0 (stp_wrap _ rfl rfl (.inl ⟨rfl, rfl⟩)) ?_
  refine qe rfl ?_
  refine awp_plain hN rfl ?_
  refine seq_run0 (stp_add rfl rfl (by omega)) ?_
  refine qd rfl ?_
  exact ⟨_, backl H, ⟨rfl, rfl, rfl, rfl, trivial⟩, trivial⟩
theorem k_upstream_Round (v1 : (List S_api_Instance)) (v2 : Int) (r : ((List Bs) × Int)) (H : m_upstream_Round v1 v2 = some r) : Fn Try.prog 24 [vlst (List.map C_api_Instance v1), vint v2] (resOf [vlst (List.map C_string r.1), vint r.2]) := by
 refine ⟨by kernel_rfl, pure_of (us := [vlst (List.map C_string r.1), vint r.2]) Try.func24 rfl rfl rfl rfl fun X hN => ?_⟩
 unfold m_upstream_Round at H
 refine awp_seq ?_
 refine awp_plain hN rfl ?_
 refine qe rfl ?_
 refine qe rfl ?_
 refine awp_seq ?_
 refine awp_seq ?_
 refine awp_plain hN rfl ?_
 refine qd rfl ?_
 obtain ⟨r3, h4, H⟩ := bnd H
 refine seq_run0 (stp_call (k_upstream_CheckInstances v1 r3 h4) ⟨.inl rfl, trivial⟩) ?_
 refine qe rfl ?_
 refine awp_seq ?_
 refine awp_plain hN rfl ?_
 refine qd rfl ?_
 refine seq_run0 (stp_neq rfl rfl) ?_
 refine awp_cond _ rfl (fun h5 => ?_) (fun h5 => ?_)
 ·replace H := ift h5 H
  refine awp_seq ?_
  refine awp_plain hN rfl ?_
  refine qd rfl ?_
  refine qe rfl ?_
  refine qe rfl ?_
  refine awp_ret ?_
  cases H
  exact ⟨trivial, .inr ⟨rfl, rfl⟩, .inl rfl, trivial⟩
 ·replace H := iff_ h5 H
  refine awp_skip ?_
  refine awp_seq ?_
  refine awp_seq ?_
  refine awp_plain hN rfl ?_
  refine qd rfl ?_
  obtain ⟨r6, h7, H⟩ := bnd H
  refine seq_run0 (stp_call (k_kit_Outside v2 0 2000 r6 h7) ⟨.inl rfl, .inl rfl, .inl rfl, trivial⟩) ?_
  refine awp_cond _ rfl (fun h8 => ?_) (fun h8 => ?_)
  ·replace H := ift h8 H
   refine awp_seq ?_
   refine awp_plain hN rfl ?_
   refine qe rfl ?_
   refine qe rfl ?_
   refine awp_ret ?_
   cases H
   exact ⟨trivial, .inr ⟨rfl, rfl⟩, .inl rfl, trivial⟩
  ·replace H := iff_ h8 H
   refine awp_skip ?_
   refine awp_seq ?_
   refine awp_seq ?_
   refine awp_plain hN rfl ?_
   refine qd rfl ?_
   refine seq_run0 (t_len tyU26 rfl) ?_
   refine seq_run0 (stp_eql rfl rfl) ?_
   refine awp_cond _ rfl (fun h9 => ?_) (fun h9 => ?_)
   ·replace H := ift h9 H
    refine awp_seq ?_
    refine awp_plain hN rfl ?_
    refine qe rfl ?_
    refine qe rfl ?_
    refine awp_ret ?_
    cases H
    exact ⟨trivial, .inr ⟨rfl, rfl⟩, .inl rfl, trivial⟩
   ·replace H := iff_ h9 H
    refine awp_skip ?_
    refine awp_seq ?_
    refine awp_plain hN rfl ?_
    refine qd rfl ?_
    refine seq_run0 (t_len tyU26 rfl) ?_
    obtain ⟨h10, H⟩ := gif H
    refine seq_run2 (t_make (C := C_int) 1 0 tyL22 tyZ3 rfl rfl rfl rfl h10 rfl) rfl ?_
    refine seq_run0 (stp_assign (.row _ _) rfl) ?_
    refine awp_seq ?_
    refine awp_plain hN rfl ?_
    refine qd rfl ?_
    obtain ⟨r11, h12, H⟩ := bnd H
    refine seq_run0 (stp_call (k_upstream_weights v1 r11 h12) ⟨.inl rfl, trivial⟩) ?_
    refine qe rfl ?_
    refine awp_seq ?_
    refine awp_plain hN rfl ?_
    refine qe rfl ?_
    refine awp_seq ?_
    refine awp_seq ?_
    refine awp_plain hN rfl ?_
    refine qd rfl ?_
    refine qd rfl ?_
    refine awp_block ?_
    refine awp_nilrow 9 2 9 1 rfl rfl rfl ?_
    obtain ⟨h17, H⟩ := gif H
    refine awp_rng (fun (k15 : Nat) (s : (List Int) × (List Bs)) => [(0, .dat (vlst (List.map C_api_Instance v1))), (7, .row 1 s.1.length), (8, .dat (vint r11)), (9, .row 2 s.2.length), (28, .dat (vint v2)), (29, .dat (vint (k15 : Int)))]) (fun (k15 : Nat) (s : (List Int) × (List Bs)) => [(1, .row 3 1 (List.map C_int s.1)), (2, .row 9 1 (List.map C_string s.2))]) ((List.replicate v1.length 0), []) H ⟨rfl, congrArg (Slot.row 1) (by simp), rfl, rfl, rfl, rfl, trivial⟩ ⟨rfl, rfl, trivial⟩ (fun _ _ => rfl) ?_ ?_
    ·rintro ⟨l13, l14⟩ H
     replace H : upstream_Round_E1 l13 l14 = some r := H
     unfold upstream_Round_E1 at H
     refine awp_seq ?_
     refine awp_plain hN rfl ?_
     refine seq_run0 (stp_lss rfl rfl) ?_
     refine awp_seq ?_
     refine awp_cond _ rfl (fun h => (lt_tI h).elim) (fun h => ?_)
     refine awp_exit ?_
     refine awp_seq ?_
     refine awp_plain hN rfl ?_
     refine seq_run0 (stp_move (.row _ _) rfl) ?_
     refine seq_run0 (stp_assign (.row _ _) rfl) ?_
     refine qe rfl ?_
     refine awp_ret ?_
     cases H
     exact ⟨trivial, t_slotv rfl rfl, .inl rfl, trivial⟩
    ·rintro k15 ⟨l13, l14⟩ q16 h18 H hq16
     replace H : upstream_Round_L1 v1 r11 k15 l13 l14 = some q16 := H
     unfold upstream_Round_L1 at H
     refine awp_seq ?_
     refine awp_plain hN rfl ?_
     refine seq_run0 (stp_lss rfl rfl) ?_
     refine awp_seq ?_
     refine awp_cond _ rfl (fun h => ?_) (fun h => (lt_fI h18 h).elim)
     refine awp_skip ?_
     refine awp_seq ?_
     refine awp_block ?_
     refine awp_seq ?_
     refine awp_plain hN rfl ?_
     refine qe rfl ?_
     refine awp_seq ?_
     refine awp_seq ?_
     refine awp_plain hN rfl ?_
     refine qd rfl ?_
     refine seq_run0 (t_len tyU26 rfl) ?_
     refine qd rfl ?_
     refine awp_block ?_
     obtain ⟨h23, H⟩ := gif H
     refine awp_forL (fun (k21 : Nat) (s : Int × (List Int)) => [(0, .dat (vlst (List.map C_api_Instance v1))), (7, .row 1 s.2.length), (8, .dat (vint r11)), (9, .row 2 l14.length), (10, .dat (vint s.1)), (28, .dat (vint v2)), (29, .dat (vint (k15 : Int))), (31, .dat (vlst (List.map C_api_Instance v1))), (32, .dat (vint (v1.length : Int))), (33, .dat (vint (k21 : Int)))]) (fun (k21 : Nat) (s : Int × (List Int)) => [(1, .row 3 1 (List.map C_int s.2)), (2, .row 9 1 (List.map C_string l14))]) (0, l13) H ⟨rfl, rfl, rfl, rfl, rfl, rfl, rfl, rfl, rfl, rfl, trivial⟩ ⟨rfl, rfl, trivial⟩ (fun _ _ => rfl) ?_ ?_
     ·rintro ⟨v19, l20⟩ H
      replace H : upstream_Round_E2 v1 r11 l14 v19 l20 = some q16 := H
      unfold upstream_Round_E2 at H
      refine awp_seq ?_
      refine awp_plain hN rfl ?_
      refine seq_run0 (stp_lss rfl rfl) ?_
      refine awp_seq ?_
      refine awp_cond _ rfl (fun h => (lt_t h).elim) (fun h => ?_)
      refine awp_exit ?_
      refine awp_seq ?_
      refine awp_plain hN rfl ?_
      refine seq_run0 (stp_move (.row _ _) rfl) ?_
      refine qd rfl ?_
      obtain ⟨x25, h26, H⟩ := bnd H
      refine seq_run1 (t_idxRI tyE22 rfl rfl rfl h26) rfl ?_
      refine seq_run1 (t_loadR1 tyS3 rfl rfl (at_some h26).2 rfl) rfl ?_
      refine qd rfl ?_
      refine seq_run0 (stp_wrap _ rfl rfl (.inr (.inl ⟨rfl, rfl⟩))) ?_
      refine seq_run1 (t_idxRI tyE22 rfl rfl rfl h26) rfl ?_
      refine seq_run2 (t_storeR (wr (x25 - r11)) tyS3 rfl rfl rfl rfl (at_some h26).2 rfl rfl) rfl ?_
      refine awp_plain hN rfl ?_
      refine seq_run0 (stp_move (.row _ _) rfl) ?_
      refine qd rfl ?_
      refine qd rfl ?_
      obtain ⟨x27, h28, H⟩ := bnd H
      refine seq_run0 (t_idxI tyE26 (fun _ => rfl) rfl rfl h28) ?_
      refine seq_run0 (stp_fldE tyF45_0 rfl) ?_
      refine seq_run0 (stp_loadE1 tyS9 rfl (map_at (at_some h28).2) rfl) ?_
      refine seq_run0 (stp_dat (u' := vlst (List.map C_string [x27.Key])) (stp_lit [[_]] tyL28 ⟨rfl, .inl ⟨_, rfl, rfl, rfl⟩, rfl, trivial⟩ rfl rfl) rfl) ?_
      obtain ⟨h29, H⟩ := gif H
      refine seq_run2 (t_app tyL28 (fun _ => rfl) rfl rfl rfl ⟨by simp, by first | (simp; done) | simpa using h29⟩ rfl) rfl ?_
      refine seq_run0 (stp_assign (.row _ _) rfl) ?_
      refine awp_plain hN rfl ?_
      refine seq_run0 (stp_add rfl rfl (by omega)) ?_
      refine qd rfl ?_
      exact ⟨_, backl H, ⟨rfl, congrArg (Slot.row 1) (by simp), rfl, rfl, rfl, rfl, trivial⟩, ⟨rfl, rfl, trivial⟩⟩
     ·rintro k21 x24 ⟨v19, l20⟩ q22 h30 h31 H hq22
      replace H : upstream_Round_L2 k21 x24 v19 l20 = some q22 := H
      unfold upstream_Round_L2 at H
      refine awp_seq ?_
      refine awp_plain hN rfl ?_
      refine seq_run0 (stp_lss rfl rfl) ?_
      refine awp_seq ?_
      refine awp_cond _ rfl (fun h => ?_) (fun h => (lt_f h30 h).elim)
      refine awp_skip ?_
      refine awp_joinE (ι := Int × (List Int)) (fun i => [(0, .dat (vlst (List.map C_api_Instance v1))), (7, .row 1 i.2.length), (8, .dat (vint r11)), (9, .row 2 l14.length), (10, .dat (vint i.1)), (28, .dat (vint v2)), (29, .dat (vint (k15 : Int))), (31, .dat (vlst (List.map C_api_Instance v1))), (32, .dat (vint (v1.length : Int))), (33, .dat (vint (k21 : Int)))]) (fun i => [(1, .row 3 1 (List.map C_int i.2)), (2, .row 9 1 (List.map C_string l14))]) (fun i => upstream_Round_J3 i.1 i.2 = some q22) (fun i => rfl) ?_ ?_
      ·skip
       refine awp_block ?_
       refine awp_seq ?_
       refine awp_plain hN rfl ?_
       refine qd rfl ?_
       refine seq_run0 (t_idx tyE26 (fun _ => rfl) rfl rfl h31) ?_
       refine seq_run0 (stp_loadEA tyS45 rfl (map_at h31) rfl) ?_
       refine seq_run2 (stp_alloc 3 tyZ45 rfl) rfl ?_
       refine qe rfl ?_
       refine seq_run2 (stp_storeW tyS45 rfl rfl rfl rfl) rfl ?_
       refine awp_seq ?_
       refine awp_draw mixed hN rfl rfl ?_
       refine seq_run0 (stp_move (.row _ _) rfl) ?_
       refine qd rfl ?_
       obtain ⟨x32, h33, H⟩ := bnd H
       refine seq_run1 (t_idxR tyE22 rfl rfl rfl h33) rfl ?_
       refine seq_run1 (t_loadR1 tyS3 rfl rfl h33 rfl) rfl ?_
       refine seq_run0 (stp_fldP tyF45_1 rfl) ?_
       refine seq_run1 (stp_load1 tyS3 rfl rfl) rfl ?_
       refine seq_run0 (stp_wrap _ rfl rfl (.inl ⟨rfl, rfl⟩)) ?_
       refine seq_run1 (t_idxR tyE22 rfl rfl rfl h33) rfl ?_
       refine seq_run2 (t_storeR (wr (x32 + x24.Weight)) tyS3 rfl rfl rfl rfl h33 rfl rfl) rfl ?_
       refine ⟨rfl, ?_⟩
       refine awp_seq ?_
       refine awp_draw mixed hN rfl rfl ?_
       refine seq_run0 (stp_move (.row _ _) rfl) ?_
       refine qd rfl ?_
       obtain ⟨x34, h35, H⟩ := bnd H
       refine seq_run1 (t_idxR tyE22 rfl (by simp) rfl h35) rfl ?_
       refine seq_run1 (t_loadR1 tyS3 rfl (by simp) h35 rfl) rfl ?_
       refine seq_run0 (stp_move (.row _ _) rfl) ?_
       refine qd rfl ?_
       obtain ⟨x36, h37, H⟩ := bnd H
       refine seq_run1 (t_idxRI tyE22 rfl (by simp) rfl h37) rfl ?_
       refine seq_run1 (t_loadR1 tyS3 rfl (by simp) (at_some h37).2 rfl) rfl ?_
       refine seq_run0 (stp_gtr rfl rfl) ?_
       refine ⟨rfl, ?_⟩
       refine awp_cond _ rfl (fun h38 => ?_) (fun h38 => ?_)
       ·replace H := ift h38 H
        refine awp_plain hN rfl ?_
        refine qd rfl ?_
        refine qe rfl ?_
        exact ⟨((k21 : Int), (l20.set k21 (wr (x32 + x24.Weight)))), H, ⟨rfl, congrArg (Slot.row 1) (by simp), rfl, rfl, rfl, rfl, rfl, rfl, rfl, rfl, trivial⟩, ⟨rfl, rfl, trivial⟩⟩
       ·replace H := iff_ h38 H
        refine awp_skip ?_
        exact ⟨(v19, (l20.set k21 (wr (x32 + x24.Weight)))), H, ⟨rfl, congrArg (Slot.row 1) (by simp), rfl, rfl, rfl, rfl, rfl, rfl, rfl, rfl, trivial⟩, ⟨rfl, rfl, trivial⟩⟩
      ·rintro ⟨v39, v40⟩ H
       replace H : upstream_Round_J3 v39 v40 = some q22 := H
       unfold upstream_Round_J3 at H
       refine awp_plain hN rfl ?_
       refine seq_run0 (stp_add rfl rfl (by omega)) ?_
       refine qd rfl ?_
       exact ⟨_, backl H, ⟨rfl, rfl, rfl, rfl, rfl, rfl, rfl, rfl, rfl, rfl, trivial⟩, ⟨rfl, rfl, trivial⟩⟩
theorem k_slices_Equal_L_string_string_ (s1 : (List Bs)) (s2 : (List Bs)) (r : (Bool)) (H : m_slices_Equal_L_string_string_ s1 s2 = some r) : Fn Try.prog 14 [vlst (List.map C_string s1), vlst (List.map C_string s2)] (resOf [vbool r]) := by
 refine ⟨by kernel_rfl, pure_of (us := [vbool r]) Try.func14 rfl rfl rfl rfl fun X hN => ?_⟩
 unfold m_slices_Equal_L_string_string_ at H
 refine awp_seq ?_
 refine awp_plain hN rfl ?_
 refine qe rfl ?_
 refine awp_seq ?_
 refine awp_seq ?_
 refine awp_plain hN rfl ?_
 refine qd rfl ?_
 refine seq_run0 (t_len tyU28 rfl) ?_
 refine qd rfl ?_
 refine seq_run0 (t_len tyU28 rfl) ?_
 refine seq_run0 (stp_neq rfl rfl) ?_
 refine awp_cond _ rfl (fun h3 => ?_) (fun h3 => ?_)
 ·replace H := ift h3 H
  refine awp_seq ?_
  refine awp_plain hN rfl ?_
  refine qe rfl ?_
  refine awp_ret ?_
  cases H
  exact ⟨trivial, .inl rfl, trivial⟩
 ·replace H := iff_ h3 H
  refine awp_skip ?_
  refine awp_seq ?_
  refine awp_seq ?_
  refine awp_plain hN rfl ?_
  refine qd rfl ?_
  refine seq_run0 (t_len tyU28 rfl) ?_
  refine qd rfl ?_
  refine awp_block ?_
  obtain ⟨h6, H⟩ := gif H
  refine awp_forL (fun (k4 : Nat) (s : Unit) => [(0, .dat (vlst (List.map C_string s1))), (1, .dat (vlst (List.map C_string s2))), (12, .dat (vint (s1.length : Int))), (13, .dat (vint (k4 : Int)))]) (fun (k4 : Nat) (s : Unit) => []) () H ⟨rfl, rfl, rfl, rfl, trivial⟩ trivial (fun _ _ => rfl) ?_ ?_
  ·rintro ⟨⟩ H
   replace H : slices_Equal_L_string_string__E1 = some r := H
   unfold slices_Equal_L_string_string__E1 at H
   refine awp_seq ?_
   refine awp_plain hN rfl ?_
   refine seq_run0 (stp_lss rfl rfl) ?_
   refine awp_seq ?_
   refine awp_cond _ rfl (fun h => (lt_t h).elim) (fun h => ?_)
   refine awp_exit ?_
   refine awp_seq ?_
   refine awp_plain hN rfl ?_
   refine qe rfl ?_
   refine awp_ret ?_
   cases H
   exact ⟨trivial, .inl rfl, trivial⟩
  ·rintro k4 x7 ⟨⟩ q5 h8 h9 H hq5
   replace H : slices_Equal_L_string_string__L1 s2 k4 x7 = some q5 := H
   unfold slices_Equal_L_string_string__L1 at H
   refine awp_seq ?_
   refine awp_plain hN rfl ?_
   refine seq_run0 (stp_lss rfl rfl) ?_
   refine awp_seq ?_
   refine awp_cond _ rfl (fun h => ?_) (fun h => (lt_f h8 h).elim)
   refine awp_skip ?_
   refine awp_seq ?_
   refine awp_block ?_
   refine awp_seq ?_
   refine awp_plain hN rfl ?_
   refine qd rfl ?_
   refine qe rfl ?_
   refine awp_seq ?_
   refine awp_draw mixed hN rfl rfl ?_
   refine qd rfl ?_
   refine qd rfl ?_
   refine seq_run0 (t_idx tyE28 (fun _ => rfl) rfl rfl h9) ?_
   refine seq_run0 (stp_loadE1 tyS9 rfl (map_at h9) rfl) ?_
   refine qd rfl ?_
   refine qd rfl ?_
   obtain ⟨x10, h11, H⟩ := bnd H
   refine seq_run0 (t_idx tyE28 (fun _ => rfl) rfl rfl h11) ?_
   refine seq_run0 (stp_loadE1 tyS9 rfl (map_at h11) rfl) ?_
   refine seq_run0 (stp_sneq rfl rfl) ?_
   refine ⟨rfl, ?_⟩
   refine awp_cond _ rfl (fun h12 => ?_) (fun h12 => ?_)
   ·replace H := ift h12 H
    refine awp_seq ?_
    refine awp_plain hN rfl ?_
    refine qe rfl ?_
    refine awp_ret ?_
    replace H := retl H hq5
    cases H
    exact ⟨trivial, .inl rfl, trivial⟩
   ·replace H := iff_ h12 H
    refine awp_skip ?_
    refine awp_plain hN rfl ?_
    refine seq_run0 (stp_add rfl rfl (by omega)) ?_
    refine qd rfl ?_
    exact ⟨_, backl H, ⟨rfl, rfl, rfl, rfl, trivial⟩, trivial⟩
theorem k_gatelaw2_balanced  (r : (Bool)) (H : m_gatelaw2_balanced  = some r) : Fn Try.prog 13 [] (resOf [vbool r]) := by
 refine ⟨by kernel_rfl, pure_of (us := [vbool r]) Try.func13 rfl rfl rfl rfl fun X hN => ?_⟩
 unfold m_gatelaw2_balanced at H
 refine awp_seq ?_
 refine awp_plain hN rfl ?_
 refine qe rfl ?_
 refine awp_seq ?_
 refine awp_plain hN rfl ?_
 refine seq_run0 (stp_dat (u' := vagg (C_api_Instance (S_api_Instance.mk [97] 1))) (stp_build [(0, [vstr [97]]), (1, [vint 1])] tyZ45 tyP45 rfl ⟨rfl, .inl ⟨_, rfl, rfl, rfl⟩, rfl, rfl, .inl ⟨_, rfl, rfl, rfl⟩, rfl, trivial⟩) rfl) ?_
 refine seq_run0 (stp_dat (u' := vagg (C_api_Instance (S_api_Instance.mk [98] 2))) (stp_build [(0, [vstr [98]]), (1, [vint 2])] tyZ45 tyP45 rfl ⟨rfl, .inl ⟨_, rfl, rfl, rfl⟩, rfl, rfl, .inl ⟨_, rfl, rfl, rfl⟩, rfl, trivial⟩) rfl) ?_
 refine seq_run0 (stp_dat (u' := vlst (List.map C_api_Instance [(S_api_Instance.mk [97] 1), (S_api_Instance.mk [98] 2)])) (stp_lit [_, _] tyL26 ⟨rfl, .inr rfl, rfl, rfl, .inr rfl, rfl, trivial⟩ rfl rfl) rfl) ?_
 obtain ⟨r1, h2, H⟩ := bnd H
 refine seq_run0 (stp_call (k_upstream_Round ([(S_api_Instance.mk [97] 1), (S_api_Instance.mk [98] 2)]) 3 r1 h2) ⟨.inl rfl, .inl rfl, trivial⟩) ?_
 refine qd rfl ?_
 refine seq_run0 (stp_ext rfl rfl) ?_
 refine seq_run0 (stp_ext rfl rfl) ?_
 refine qe rfl ?_
 refine qe rfl ?_
 refine awp_joinE (ι := Bool) (fun i => [(0, .dat (vbool i))]) (fun i => []) (fun i => gatelaw2_balanced_J1 i = some r) (fun i => rfl) ?_ ?_
 ·skip
  refine awp_plain hN rfl ?_
  refine qd rfl ?_
  refine seq_run0 (stp_eql rfl rfl) ?_
  refine qd rfl ?_
  refine seq_split (j := 2) rfl rfl (fun h3 => ?_) (fun h3 => ?_) rfl
  ·have h4 := un1 h3
   replace H := ift h4 H
   refine seq_g0 rfl rfl h3 (stp_move (.dat _) rfl) ?_
   refine seq_g0 rfl rfl h3 (stp_dat (u' := vlst (List.map C_string [[98], [97], [98]])) (stp_lit [[_], [_], [_]] tyL28 ⟨rfl, .inl ⟨_, rfl, rfl, rfl⟩, rfl, rfl, .inl ⟨_, rfl, rfl, rfl⟩, rfl, rfl, .inl ⟨_, rfl, rfl, rfl⟩, rfl, trivial⟩ rfl rfl) rfl) ?_
   obtain ⟨r5, h6, H⟩ := bnd H
   refine seq_g0 rfl rfl h3 (stp_call (k_slices_Equal_L_string_string_ r1.1 ([[98], [97], [98]]) r5 h6) ⟨.inl rfl, .inl rfl, trivial⟩) ?_
   refine seq_run0 (stp_pick_t rfl (bTT h4) rfl) ?_
   refine qe rfl ?_
   exact ⟨r5, H, ⟨rfl, trivial⟩, trivial⟩
  ·have h7 := un2 h3
   replace H := iff_ h7 H
   refine seq_skip rfl rfl h3 ?_
   refine seq_skip rfl rfl h3 ?_
   refine seq_skip rfl rfl h3 ?_
   refine seq_run0 (stp_pick_f rfl (bFF h7) rfl) ?_
   refine qe rfl ?_
   exact ⟨false, H, ⟨rfl, trivial⟩, trivial⟩
 ·rintro v8 H
  replace H : gatelaw2_balanced_J1 v8 = some r := H
  unfold gatelaw2_balanced_J1 at H
  refine awp_ret ?_
  cases H
  exact ⟨trivial, .inl rfl, trivial⟩
theorem kt_slices_insertionSortCmpFunc_string_ (data1 : (List Bs)) (a2 : Int) (b3 : Int) (p3 : Bs → Bs → Option (Int)) (fv3 : Nat) (us3 : List V) (hp3 : ∀ a0 a1 r, p3 a0 a1 = some r → Fn Try.prog fv3 ([vstr a0, vstr a1] ++ us3) (resOf [vint r])) (r : ((List Bs))) (H : m_slices_insertionSortCmpFunc_string_ data1 a2 b3 p3 = some r) : FnG Try.prog 65 [.row 0 data1.length, .dat (vint a2), .dat (vint b3), .dat (vfn fv3 us3)] [(0, .rowA undef 9 1 (List.map C_string data1))] (.dat (resOf [])) [(0, .rowA undef 9 1 (List.map C_string r))] := by
 refine fnG_of (by kernel_rfl) Try.func65 rfl rfl rfl rfl fun X A hN => ?_
 unfold m_slices_insertionSortCmpFunc_string_ at H
 refine awp_seq ?_
 refine awp_plain hN rfl ?_
 refine qd rfl ?_
 refine seq_run0 (stp_wrap _ rfl rfl (.inl ⟨rfl, rfl⟩)) ?_
 refine qe rfl ?_
 refine awp_block ?_
 refine awp_iter (fun (s : Int × (List Bs)) => [(0, .row 0 s.2.length), (1, .dat (vint a2)), (2, .dat (vint b3)), (3, .dat (vfn fv3 us3)), (8, .dat (vint s.1))]) (fun (s : Int × (List Bs)) => [(0, .rowA (A.vl 0) 9 1 (List.map C_string s.2))]) (wr (a2 + 1), data1) H ⟨rfl, rfl, rfl, rfl, rfl, trivial⟩ ⟨rfl, trivial⟩ (fun _ => rfl) ?_
 rintro ⟨i4, l5⟩ q6 H hq6
 replace H : slices_insertionSortCmpFunc_string__L1 a2 b3 p3 i4 l5 = some q6 := H
 unfold slices_insertionSortCmpFunc_string__L1 at H
 refine awp_seq ?_
 refine awp_seq ?_
 refine awp_plain hN rfl ?_
 refine qd rfl ?_
 refine qd rfl ?_
 refine seq_run0 (stp_lss rfl rfl) ?_
 refine awp_cond _ rfl (fun h7 => ?_) (fun h7 => ?_)
 ·replace H := ift h7 H
  refine awp_skip ?_
  refine awp_joinE (ι := (List Bs)) (fun i => [(0, .row 0 i.length), (1, .dat (vint a2)), (2, .dat (vint b3)), (3, .dat (vfn fv3 us3)), (8, .dat (vint i4))]) (fun i => [(0, .rowA (A.vl 0) 9 1 (List.map C_string i))]) (fun i => slices_insertionSortCmpFunc_string__J2 i4 i = some q6) (fun i => rfl) ?_ ?_
  ·skip
   refine awp_block ?_
   refine awp_seq ?_
   refine awp_plain hN rfl ?_
   refine qd rfl ?_
   refine qe rfl ?_
   refine awp_block ?_
   refine awp_iter (fun (s : Int × (List Bs)) => [(0, .row 0 s.2.length), (1, .dat (vint a2)), (2, .dat (vint b3)), (3, .dat (vfn fv3 us3)), (8, .dat (vint i4)), (9, .dat (vint s.1))]) (fun (s : Int × (List Bs)) => [(0, .rowA (A.vl 0) 9 1 (List.map C_string s.2))]) (i4, l5) H ⟨rfl, rfl, rfl, rfl, rfl, rfl, trivial⟩ ⟨rfl, trivial⟩ (fun _ => rfl) ?_
   rintro ⟨j8, l9⟩ q10 H hq10
   replace H : slices_insertionSortCmpFunc_string__L3 a2 p3 i4 j8 l9 = some q10 := H
   unfold slices_insertionSortCmpFunc_string__L3 at H
   refine awp_seq ?_
   refine awp_joinE (ι := Bool) (fun i => [(0, .row 0 l9.length), (1, .dat (vint a2)), (2, .dat (vint b3)), (3, .dat (vfn fv3 us3)), (8, .dat (vint i4)), (9, .dat (vint j8)), (34, .dat (vbool i))]) (fun i => [(0, .rowA (A.vl 0) 9 1 (List.map C_string l9))]) (fun i => slices_insertionSortCmpFunc_string__J4 i4 j8 l9 i = some q10) (fun i => rfl) ?_ ?_
   ·skip
    refine awp_draw mixed hN rfl rfl ?_
    refine qd rfl ?_
    refine qd rfl ?_
    refine seq_run0 (stp_gtr rfl rfl) ?_
    refine qd rfl ?_
    refine seq_split (j := 3) rfl rfl (fun h11 => ?_) (fun h11 => ?_) rfl
    ·have h12 := un1 h11
     replace H := ift h12 H
     refine seq_g0 rfl rfl h11 (stp_move (.dat _) rfl) ?_
     refine seq_g0 rfl rfl h11 (stp_move (.row _ _) rfl) ?_
     refine seq_g0 rfl rfl h11 (stp_move (.dat _) rfl) ?_
     obtain ⟨x13, h14, H⟩ := bnd H
     refine seq_g1 rfl rfl h11 (t_idxTI tyE28 rfl rfl rfl h14) rfl ?_
     refine seq_g1 rfl rfl h11 (t_loadT1 tyS9 rfl rfl (at_some h14).2 rfl) rfl ?_
     refine seq_g0 rfl rfl h11 (stp_move (.row _ _) rfl) ?_
     refine seq_g0 rfl rfl h11 (stp_move (.dat _) rfl) ?_
     refine seq_g0 rfl rfl h11 (stp_wrap _ rfl rfl (.inr (.inl ⟨rfl, rfl⟩))) ?_
     obtain ⟨x15, h16, H⟩ := bnd H
     refine seq_g1 rfl rfl h11 (t_idxTI tyE28 rfl rfl rfl h16) rfl ?_
     refine seq_g1 rfl rfl h11 (t_loadT1 tyS9 rfl rfl (at_some h16).2 rfl) rfl ?_
     obtain ⟨r17, h18, H⟩ := bnd H
     refine seq_g0 rfl rfl h11 (stp_callv (hp3 x13 x15 r17 h18) rfl ⟨.inl rfl, .inl rfl, trivial⟩) ?_
     refine seq_g0 rfl rfl h11 (stp_lss rfl rfl) ?_
     refine seq_run0 (stp_pick_t rfl (bTT h12) rfl) ?_
     refine ⟨rfl, ?_⟩
     exact ⟨decide (r17 < 0), H, ⟨rfl, rfl, rfl, rfl, rfl, rfl, rfl, trivial⟩, ⟨rfl, trivial⟩⟩
    ·have h19 := un2 h11
     replace H := iff_ h19 H
     refine seq_skip rfl rfl h11 ?_
     refine seq_skip rfl rfl h11 ?_
     refine seq_skip rfl rfl h11 ?_
     refine seq_skip rfl rfl h11 ?_
     refine seq_skip rfl rfl h11 ?_
     refine seq_skip rfl rfl h11 ?_
     refine seq_skip rfl rfl h11 ?_
     refine seq_skip rfl rfl h11 ?_
     refine seq_skip rfl rfl h11 ?_
     refine seq_skip rfl rfl h11 ?_
     refine seq_skip rfl rfl h11 ?_
     refine seq_skip rfl rfl h11 ?_
     refine seq_run0 (stp_pick_f rfl (bFF h19) rfl) ?_
     refine ⟨rfl, ?_⟩
     exact ⟨false, H, ⟨rfl, rfl, rfl, rfl, rfl, rfl, rfl, trivial⟩, ⟨rfl, trivial⟩⟩
   ·rintro v20 H
    replace H : slices_insertionSortCmpFunc_string__J4 i4 j8 l9 v20 = some q10 := H
    unfold slices_insertionSortCmpFunc_string__J4 at H
    refine awp_cond _ rfl (fun h21 => ?_) (fun h21 => ?_)
    ·replace H := ift h21 H
     refine awp_skip ?_
     refine awp_seq ?_
     refine awp_block ?_
     refine awp_draw mixed hN rfl rfl ?_
     refine seq_run0 (stp_move (.row _ _) rfl) ?_
     refine qd rfl ?_
     refine seq_run0 (stp_move (.row _ _) rfl) ?_
     refine qd rfl ?_
     refine seq_run0 (stp_wrap _ rfl rfl (.inr (.inl ⟨rfl, rfl⟩))) ?_
     refine seq_run0 (stp_move (.row _ _) rfl) ?_
     refine qd rfl ?_
     refine seq_run0 (stp_wrap _ rfl rfl (.inr (.inl ⟨rfl, rfl⟩))) ?_
     obtain ⟨x22, h23, H⟩ := bnd H
     refine seq_run1 (t_idxTI tyE28 rfl rfl rfl h23) rfl ?_
     refine seq_run1 (t_loadT1 tyS9 rfl rfl (at_some h23).2 rfl) rfl ?_
     refine seq_run0 (stp_move (.row _ _) rfl) ?_
     refine qd rfl ?_
     obtain ⟨x24, h25, H⟩ := bnd H
     refine seq_run1 (t_idxTI tyE28 rfl rfl rfl h25) rfl ?_
     refine seq_run1 (t_loadT1 tyS9 rfl rfl (at_some h25).2 rfl) rfl ?_
     refine seq_run1 (t_idxTI tyE28 rfl rfl rfl h25) rfl ?_
     refine seq_run2 (t_storeT1 (y := x22) tyS9 rfl rfl rfl rfl (at_lt (at_some h25).2) (fun _ => rfl) rfl) rfl ?_
     obtain ⟨x26, h27, H⟩ := bnd H
     refine seq_run1 (t_idxTI tyE28 rfl (by simp) rfl h27) rfl ?_
     refine seq_run2 (t_storeT1 (y := x24) tyS9 rfl rfl rfl (by simp) (at_lt (at_some h27).2) (fun _ => rfl) rfl) rfl ?_
     refine ⟨rfl, ?_⟩
     refine awp_plain hN rfl ?_
     refine qd rfl ?_
     refine seq_run0 (stp_wrap _ rfl rfl (.inr (.inl ⟨rfl, rfl⟩))) ?_
     refine qe rfl ?_
     exact ⟨_, backl H, ⟨congrArg (Slot.row 0) (by simp), rfl, rfl, rfl, rfl, rfl, trivial⟩, ⟨rfl, trivial⟩⟩
    ·replace H := iff_ h21 H
     refine awp_exit ?_
     replace H := outl H hq10
     exact ⟨l9, H, ⟨rfl, rfl, rfl, rfl, rfl, trivial⟩, ⟨rfl, trivial⟩⟩
  ·rintro data28 H
   replace H : slices_insertionSortCmpFunc_string__J2 i4 data28 = some q6 := H
   unfold slices_insertionSortCmpFunc_string__J2 at H
   refine awp_plain hN rfl ?_
   refine qd rfl ?_
   refine seq_run0 (stp_wrap _ rfl rfl (.inl ⟨rfl, rfl⟩)) ?_
   refine qe rfl ?_
   exact ⟨_, backl H, ⟨rfl, rfl, rfl, rfl, rfl, trivial⟩, ⟨rfl, trivial⟩⟩
 ·replace H := iff_ h7 H
  refine awp_exit ?_
  replace H := retl H hq6
  have eH : l5 = r := Option.some.inj H
  subst eH
  exact ⟨trivial, [], trivial, ⟨rfl, trivial⟩, rfl, .inl ⟨[], trivial, rfl⟩⟩
theorem kt_slices_stableCmpFunc_string_ (data1 : (List Bs)) (n2 : Int) (p2 : Bs → Bs → Option (Int)) (fv2 : Nat) (us2 : List V) (hp2 : ∀ a0 a1 r, p2 a0 a1 = some r → Fn Try.prog fv2 ([vstr a0, vstr a1] ++ us2) (resOf [vint r])) (r : ((List Bs))) (H : m_slices_stableCmpFunc_string_ data1 n2 p2 = some r) : FnG Try.prog 49 [.row 0 data1.length, .dat (vint n2), .dat (vfn fv2 us2)] [(0, .rowA undef 9 1 (List.map C_string data1))] (.dat (resOf [])) [(0, .rowA undef 9 1 (List.map C_string r))] := by
 refine fnG_of (by kernel_rfl) Try.func49 rfl rfl rfl rfl fun X A hN => ?_
 unfold m_slices_stableCmpFunc_string_ at H
 refine awp_seq ?_
 refine awp_plain hN rfl ?_
 refine qe rfl ?_
 refine awp_seq ?_
 refine awp_plain hN rfl ?_
 refine qd rfl ?_
 refine qe rfl ?_
 refine qe rfl ?_
 refine awp_joinE (ι := Int × (List Bs)) (fun i => [(0, .row 0 i.2.length), (1, .dat (vint n2)), (2, .dat (vfn fv2 us2)), (6, .dat (vint 20)), (7, .dat (vint i.1))]) (fun i => [(0, .rowA (A.vl 0) 9 1 (List.map C_string i.2))]) (fun i => slices_stableCmpFunc_string__J1 n2 p2 i.1 i.2 = some r) (fun i => rfl) ?_ ?_
 ·skip
  refine awp_block ?_
  refine awp_iter (fun (s : Int × Int × (List Bs)) => [(0, .row 0 s.2.2.length), (1, .dat (vint n2)), (2, .dat (vfn fv2 us2)), (6, .dat (vint 20)), (7, .dat (vint s.1)), (8, .dat (vint s.2.1))]) (fun (s : Int × Int × (List Bs)) => [(0, .rowA (A.vl 0) 9 1 (List.map C_string s.2.2))]) (0, 20, data1) H ⟨rfl, rfl, rfl, rfl, rfl, rfl, trivial⟩ ⟨rfl, trivial⟩ (fun _ => rfl) ?_
  rintro ⟨a3, b4, l5⟩ q6 H hq6
  replace H : slices_stableCmpFunc_string__L2 n2 p2 a3 b4 l5 = some q6 := H
  unfold slices_stableCmpFunc_string__L2 at H
  refine awp_seq ?_
  refine awp_seq ?_
  refine awp_plain hN rfl ?_
  refine qd rfl ?_
  refine qd rfl ?_
  refine seq_run0 (stp_leq rfl rfl) ?_
  refine awp_cond _ rfl (fun h7 => ?_) (fun h7 => ?_)
  ·replace H := ift h7 H
   refine awp_skip ?_
   refine awp_block ?_
   refine awp_seq ?_
   refine awp_plain hN rfl ?_
   refine seq_run0 (stp_move (.row _ _) rfl) ?_
   refine qd rfl ?_
   refine qd rfl ?_
   refine qd rfl ?_
   obtain ⟨r8, h9, H⟩ := bnd H
   obtain ⟨h10, H⟩ := gif H
   refine seq_callG (rn [(0, 0)]) [(0, _, _, some _)] [] (kt_slices_insertionSortCmpFunc_string_ l5 a3 b4 p2 fv2 us2 hp2 r8 h9) ⟨rfl, trivial⟩ ⟨.inl (.inl rfl), .inl (.inl rfl), .inl (.inl rfl), .inl (.inl rfl), trivial⟩ ⟨⟨⟨rfl, rfl, rfl⟩, by simp [stayP, h10]⟩, trivial⟩ rfl ?_
   refine awp_seq ?_
   refine awp_plain hN rfl ?_
   refine qd rfl ?_
   refine qe rfl ?_
   refine awp_plain hN rfl ?_
   refine qd rfl ?_
   refine qd rfl ?_
   refine seq_run0 (stp_wrap _ rfl rfl (.inl ⟨rfl, rfl⟩)) ?_
   refine qe rfl ?_
   exact ⟨_, backl H, ⟨congrArg (Slot.row 0) ((h10).symm).symm, rfl, rfl, rfl, rfl, rfl, trivial⟩, ⟨rfl, trivial⟩⟩
  ·replace H := iff_ h7 H
   refine awp_exit ?_
   replace H := outl H hq6
   exact ⟨(a3, l5), H, ⟨rfl, rfl, rfl, rfl, rfl, trivial⟩, ⟨rfl, trivial⟩⟩
 ·rintro ⟨a11, data12⟩ H
  replace H : slices_stableCmpFunc_string__J1 n2 p2 a11 data12 = some r := H
  unfold slices_stableCmpFunc_string__J1 at H
  refine awp_seq ?_
  refine awp_plain hN rfl ?_
  refine seq_run0 (stp_move (.row _ _) rfl) ?_
  refine qd rfl ?_
  refine qd rfl ?_
  refine qd rfl ?_
  obtain ⟨r13, h14, H⟩ := bnd H
  obtain ⟨h15, H⟩ := gif H
  refine seq_callG (rn [(0, 0)]) [(0, _, _, some _)] [] (kt_slices_insertionSortCmpFunc_string_ data12 a11 n2 p2 fv2 us2 hp2 r13 h14) ⟨rfl, trivial⟩ ⟨.inl (.inl rfl), .inl (.inl rfl), .inl (.inl rfl), .inl (.inl rfl), trivial⟩ ⟨⟨⟨rfl, rfl, rfl⟩, by simp [stayP, h15]⟩, trivial⟩ rfl ?_
  refine awp_block ?_
  refine awp_iter (fun (s : Int) => [(0, .row 0 data12.length), (1, .dat (vint n2)), (2, .dat (vfn fv2 us2)), (6, .dat (vint s))]) (fun (s : Int) => [(0, .rowA (A.vl 0) 9 1 (List.map C_string r13))]) 20 H ⟨rfl, rfl, rfl, rfl, trivial⟩ ⟨rfl, trivial⟩ (fun _ => rfl) ?_
  rintro blockSize16 q17 H hq17
  replace H : slices_stableCmpFunc_string__L3 n2 r13 blockSize16 = some q17 := H
  unfold slices_stableCmpFunc_string__L3 at H
  refine awp_seq ?_
  refine awp_seq ?_
  refine awp_plain hN rfl ?_
  refine qd rfl ?_
  refine qd rfl ?_
  refine seq_run0 (stp_lss rfl rfl) ?_
  refine awp_cond _ rfl (fun h18 => ?_) (fun h18 => ?_)
  ·replace H := ift h18 H
   refine awp_skip ?_
   refine awp_block ?_
   refine awp_seq ?_
   refine awp_plain hN rfl ?_
   refine qd rfl ?_
   refine seq_run0 (stp_wrap _ rfl rfl (.inr (.inr ⟨rfl, rfl⟩))) ?_
   refine qe rfl ?_
   refine qe rfl ?_
   refine awp_joinE (ι := Int) (fun i => [(0, .row 0 data12.length), (1, .dat (vint n2)), (2, .dat (vfn fv2 us2)), (6, .dat (vint blockSize16)), (7, .dat (vint i))]) (fun i => [(0, .rowA (A.vl 0) 9 1 (List.map C_string r13))]) (fun i => slices_stableCmpFunc_string__J4 n2 blockSize16 i = some q17) (fun i => rfl) ?_ ?_
   ·skip
    refine awp_block ?_
    refine awp_iter (fun (s : Int × Int) => [(0, .row 0 data12.length), (1, .dat (vint n2)), (2, .dat (vfn fv2 us2)), (6, .dat (vint blockSize16)), (7, .dat (vint s.1)), (8, .dat (vint s.2))]) (fun (s : Int × Int) => [(0, .rowA (A.vl 0) 9 1 (List.map C_string r13))]) (0, wr (2 * blockSize16)) H ⟨rfl, rfl, rfl, rfl, rfl, rfl, trivial⟩ ⟨rfl, trivial⟩ (fun _ => rfl) ?_
    rintro ⟨a19, b20⟩ q21 H hq21
    replace H : slices_stableCmpFunc_string__L5 n2 blockSize16 a19 b20 = some q21 := H
    unfold slices_stableCmpFunc_string__L5 at H
    refine awp_seq ?_
    refine awp_seq ?_
    refine awp_plain hN rfl ?_
    refine qd rfl ?_
    refine qd rfl ?_
    refine seq_run0 (stp_leq rfl rfl) ?_
    refine awp_cond _ rfl (fun h22 => ?_) (fun h22 => ?_)
    ·replace H := ift h22 H
     cases H
    ·replace H := iff_ h22 H
     refine awp_exit ?_
     replace H := outl H hq21
     exact ⟨a19, H, ⟨rfl, rfl, rfl, rfl, rfl, trivial⟩, ⟨rfl, trivial⟩⟩
   ·rintro a23 H
    replace H : slices_stableCmpFunc_string__J4 n2 blockSize16 a23 = some q17 := H
    unfold slices_stableCmpFunc_string__J4 at H
    refine awp_joinE (ι := Unit) (fun i => [(0, .row 0 data12.length), (1, .dat (vint n2)), (2, .dat (vfn fv2 us2)), (6, .dat (vint blockSize16))]) (fun i => [(0, .rowA (A.vl 0) 9 1 (List.map C_string r13))]) (fun i => slices_stableCmpFunc_string__J6 blockSize16 = some q17) (fun i => rfl) ?_ ?_
    ·skip
     refine awp_seq ?_
     refine awp_plain hN rfl ?_
     refine qd rfl ?_
     refine qd rfl ?_
     refine seq_run0 (stp_wrap _ rfl rfl (.inl ⟨rfl, rfl⟩)) ?_
     refine qe rfl ?_
     refine awp_seq ?_
     refine awp_plain hN rfl ?_
     refine qd rfl ?_
     refine qd rfl ?_
     refine seq_run0 (stp_lss rfl rfl) ?_
     refine awp_cond _ rfl (fun h24 => ?_) (fun h24 => ?_)
     ·replace H := ift h24 H
      cases H
     ·replace H := iff_ h24 H
      refine awp_skip ?_
      exact ⟨(), H, ⟨rfl, rfl, rfl, rfl, trivial⟩, ⟨rfl, trivial⟩⟩
    ·rintro ⟨⟩ H
     replace H : slices_stableCmpFunc_string__J6 blockSize16 = some q17 := H
     unfold slices_stableCmpFunc_string__J6 at H
     refine awp_plain hN rfl ?_
     refine qd rfl ?_
     refine seq_run0 (stp_wrap _ rfl rfl (.inr (.inr ⟨rfl, rfl⟩))) ?_
     refine qe rfl ?_
     exact ⟨_, backl H, ⟨rfl, rfl, rfl, rfl, trivial⟩, ⟨rfl, trivial⟩⟩
  ·replace H := iff_ h18 H
   refine awp_exit ?_
   replace H := retl H hq17
   have eH : r13 = r := Option.some.inj H
   subst eH
   exact ⟨trivial, [], trivial, ⟨rfl, trivial⟩, rfl, .inl ⟨[], trivial, rfl⟩⟩
theorem kt_slices_SortStableFunc_L_string_string_ (x1 : (List Bs)) (p1 : Bs → Bs → Option (Int)) (fv1 : Nat) (us1 : List V) (hp1 : ∀ a0 a1 r, p1 a0 a1 = some r → Fn Try.prog fv1 ([vstr a0, vstr a1] ++ us1) (resOf [vint r])) (r : ((List Bs))) (H : m_slices_SortStableFunc_L_string_string_ x1 p1 = some r) : FnG Try.prog 40 [.row 0 x1.length, .dat (vfn fv1 us1)] [(0, .rowA undef 9 1 (List.map C_string x1))] (.dat (resOf [])) [(0, .rowA undef 9 1 (List.map C_string r))] := by
 refine fnG_of (by kernel_rfl) Try.func40 rfl rfl rfl rfl fun X A hN => ?_
 unfold m_slices_SortStableFunc_L_string_string_ at H
 refine awp_plain hN rfl ?_
 refine seq_run0 (stp_move (.row _ _) rfl) ?_
 refine seq_run0 (stp_move (.row _ _) rfl) ?_
 refine seq_run1 (t_lenT tyU28 rfl rfl) rfl ?_
 refine qd rfl ?_
 obtain ⟨r2, h3, H⟩ := bnd H
 obtain ⟨h4, H⟩ := gif H
 refine seq_callG (rn [(0, 0)]) [(0, _, _, some _)] [] (kt_slices_stableCmpFunc_string_ x1 (x1.length : Int) p1 fv1 us1 hp1 r2 h3) ⟨rfl, trivial⟩ ⟨.inl (.inl rfl), .inl (.inl rfl), .inl (.inl rfl), trivial⟩ ⟨⟨⟨rfl, rfl, rfl⟩, by simp [stayP, h4]⟩, trivial⟩ rfl ?_
 have eH : r2 = r := Option.some.inj H
 subst eH
 exact ⟨trivial, [], trivial, ⟨rfl, trivial⟩, rfl, .inl ⟨[], trivial, rfl⟩⟩
theorem k_gateref2_sign (n1 : Int) (r : (Int)) (H : m_gateref2_sign n1 = some r) : Fn Try.prog 42 [vint n1] (resOf [vint r]) := by
 refine ⟨by kernel_rfl, pure_of (us := [vint r]) Try.func42 rfl rfl rfl rfl fun X hN => ?_⟩
 unfold m_gateref2_sign at H
 refine awp_seq ?_
 refine awp_plain hN rfl ?_
 refine qe rfl ?_
 refine awp_seq ?_
 refine awp_block ?_
 refine awp_seq ?_
 refine awp_plain hN rfl ?_
 refine qd rfl ?_
 refine seq_run0 (stp_lss rfl rfl) ?_
 refine qe rfl ?_
 refine awp_cond _ rfl (fun h2 => ?_) (fun h2 => ?_)
 ·replace H := ift h2 H
  refine awp_seq ?_
  refine awp_plain hN rfl ?_
  refine qe rfl ?_
  refine awp_ret ?_
  cases H
  exact ⟨trivial, .inl rfl, trivial⟩
 ·replace H := iff_ h2 H
  refine awp_seq ?_
  refine awp_plain hN rfl ?_
  refine qd rfl ?_
  refine seq_run0 (stp_gtr rfl rfl) ?_
  refine qe rfl ?_
  refine awp_cond _ rfl (fun h3 => ?_) (fun h3 => ?_)
  ·replace H := ift h3 H
   refine awp_seq ?_
   refine awp_plain hN rfl ?_
   refine qe rfl ?_
   refine awp_ret ?_
   cases H
   exact ⟨trivial, .inl rfl, trivial⟩
  ·replace H := iff_ h3 H
   refine awp_skip ?_
   refine awp_seq ?_
   refine awp_plain hN rfl ?_
   refine qe rfl ?_
   refine awp_ret ?_
   cases H
   exact ⟨trivial, .inl rfl, trivial⟩
theorem k_gateref2_OrderOf_1 (a1 : Bs) (b2 : Bs) (c3 : (Nat × (Bs → Int))) (r : (Int)) (H : m_gateref2_OrderOf_1 a1 b2 c3 = some r) : Fn Try.prog 41 [vstr a1, vstr b2, vcell [[vmpI Try.prog 9 3 c3.1 c3.2]] 0 0] (resOf [vint r]) := by
 refine ⟨by kernel_rfl, pure_of (us := [vint r]) Try.func41 rfl rfl rfl rfl fun X hN => ?_⟩
 unfold m_gateref2_OrderOf_1 at H
 refine awp_seq ?_
 refine awp_plain hN rfl ?_
 refine qe rfl ?_
 refine awp_seq ?_
 refine awp_plain hN rfl ?_
 refine seq_run0 (stp_loadE1 tyS55 rfl rfl rfl) ?_
 refine qd rfl ?_
 obtain ⟨h4, H⟩ := gif H
 refine seq_run0 (stp_lookV tyM55 rfl rfl h4) ?_
 refine seq_run0 (stp_loadE1 tyS55 rfl rfl rfl) ?_
 refine qd rfl ?_
 obtain ⟨h5, H⟩ := gif H
 refine seq_run0 (stp_lookV tyM55 rfl rfl h5) ?_
 refine seq_run0 (stp_wrap _ rfl rfl (.inr (.inl ⟨rfl, rfl⟩))) ?_
 obtain ⟨r6, h7, H⟩ := bnd H
 refine seq_run0 (stp_call (k_gateref2_sign (wr ((c3.2 b2) - (c3.2 a1))) r6 h7) ⟨.inl rfl, trivial⟩) ?_
 refine qe rfl ?_
 refine awp_ret ?_
 cases H
 exact ⟨trivial, .inl rfl, trivial⟩
theorem k_strings_Join (l : List Bs) (sep r : Bs) (H : m_strings_Join l sep = some r) : Fn Try.prog 48 [vlst (List.map C_string l), vstr sep] (resOf [vstr r]) := by
 obtain ⟨h1, h2, rfl⟩ := join_some H
 refine fn_of_callsG (by kernel_rfl) fun M w vs hM h => ?_
 obtain ⟨hl, hv⟩ := h
 obtain ⟨a, ha, hap⟩ := hv 0 _ rfl
 obtain ⟨s, hs, hsp⟩ := hv 1 _ rfl
 have hsp : s = .string ⟨sep.toArray⟩ := hsp
 subst hsp
 have hvs : vs.toArray = #[a, .string ⟨sep.toArray⟩] := by
  rcases vs with _ | ⟨x, _ | ⟨y, _ | ⟨z, t⟩⟩⟩
  ·cases ha
  ·cases hs
  ·cases ha; cases hs; rfl
  ·simp at hl
 rw [hvs]
 obtain ⟨A, c, q1, q2, q3⟩ := hap
 simp only [List.length_map] at q1 q2
 subst q1
 by_cases hne : l = []
 ·subst hne
  refine (Try.strings_Join_none A c ⟨sep.toArray⟩ w).mono ?_
  rintro e w' ⟨rfl, rfl⟩
  exact ⟨_, rfl, rfl, Kp.refl _ _⟩
 ·obtain ⟨b, off, size, rfl, hMb, arr, t, fz, q5, q6, q7⟩ := q3 (by simpa using hne)
  have hsz : size = 1 := by
   cases hq : l with
   | nil => exact absurd hq hne
   | cons x l' => have := q6 (C_string x) (by rw [hq]; simp); simpa using this.symm
  subst hsz
  have e1 : ((l.map fun x => ByteArray.mk x.toArray).map (·.data.toList)) = l := by
   rw [List.map_map]
   exact (List.map_congr_left fun x _ => rfl).trans (List.map_id l)
  have hj := Try.strings_Join b off c (l.map fun x => ByteArray.mk x.toArray) ⟨sep.toArray⟩ w (fun j x hx => by
   rw [List.getElem?_map] at hx
   cases hq : l[j]? with
   | none => rw [hq] at hx; cases hx
   | some y =>
    rw [hq] at hx
    cases hx
    obtain ⟨v, r1, r2, _⟩ := q7 j 0 (C_string y) (vstr y) (by rw [List.getElem?_map, hq]; rfl) rfl
    have r2 : v = .string ⟨y.toArray⟩ := r2
    rw [cell_of_row w b _ _ _ _ q5]
    simp only [Nat.mul_one, Nat.add_zero] at r1
    rw [r1, r2]) (heap_lt q5) (by simp; omega) (by simpa using q2) (by rw [e1]; simp only; omega)
  rw [List.length_map, e1] at hj
  refine hj.mono ?_
  rintro e w' ⟨rfl, hb⟩
  exact ⟨_, rfl, rfl, Kp.of_below hb⟩
theorem k_gateref2_hashed (l1 : (List Bs)) (r : (Int)) (H : m_gateref2_hashed l1 = some r) : Fn Try.prog 39 [vlst (List.map C_string l1)] (resOf [vval (.int .u64 r)]) := by
 refine ⟨by kernel_rfl, pure_of (us := [vval (.int .u64 r)]) Try.func39 rfl rfl rfl rfl fun X hN => ?_⟩
 unfold m_gateref2_hashed at H
 refine awp_seq ?_
 refine awp_plain hN rfl ?_
 refine qe rfl ?_
 refine awp_seq ?_
 refine awp_plain hN rfl ?_
 refine qe rfl ?_
 refine awp_seq ?_
 refine awp_plain hN rfl ?_
 refine qd rfl ?_
 obtain ⟨r2, h3, H⟩ := bnd H
 refine seq_run0 (stp_call (k_strings_Join l1 [0] r2 h3) ⟨.inl rfl, .inl rfl, trivial⟩) ?_
 refine qe rfl ?_
 refine awp_seq ?_
 refine awp_seq ?_
 refine awp_plain hN rfl ?_
 refine qd rfl ?_
 refine seq_run0 (stp_len_str tyU9 rfl) ?_
 refine qd rfl ?_
 refine awp_block ?_
 obtain ⟨h7, H⟩ := gif H
 refine awp_forL (fun (k5 : Nat) (s : Int) => [(3, .dat (vval (.int .u64 s))), (4, .dat (vstr r2)), (9, .dat (vint (r2.length : Int))), (10, .dat (vint (k5 : Int)))]) (fun (k5 : Nat) (s : Int) => []) 14695981039346656037 H ⟨rfl, rfl, rfl, rfl, trivial⟩ trivial (fun _ _ => rfl) ?_ ?_
 ·rintro h4 H
  replace H : gateref2_hashed_E1 h4 = some r := H
  unfold gateref2_hashed_E1 at H
  refine awp_seq ?_
  refine awp_plain hN rfl ?_
  refine seq_run0 (stp_lss rfl rfl) ?_
  refine awp_seq ?_
  refine awp_cond _ rfl (fun h => (lt_t h).elim) (fun h => ?_)
  refine awp_exit ?_
  refine awp_seq ?_
  refine awp_plain hN rfl ?_
  refine qd rfl ?_
  refine qe rfl ?_
  refine awp_ret ?_
  cases H
  exact ⟨trivial, .inl rfl, trivial⟩
 ·rintro k5 x8 h4 q6 h9 h10 H hq6
  replace H : gateref2_hashed_L1 k5 x8 h4 = some q6 := H
  unfold gateref2_hashed_L1 at H
  refine awp_seq ?_
  refine awp_plain hN rfl ?_
  refine seq_run0 (stp_lss rfl rfl) ?_
  refine awp_seq ?_
  refine awp_cond _ rfl (fun h => ?_) (fun h => (lt_f h9 h).elim)
  refine awp_skip ?_
  refine awp_seq ?_
  refine awp_block ?_
  refine awp_seq ?_
  refine awp_plain hN rfl ?_
  refine qd rfl ?_
  refine qe rfl ?_
  refine awp_plain hN rfl ?_
  refine qd rfl ?_
  refine qd rfl ?_
  refine qd rfl ?_
  refine seq_run0 (t_byte tyU9 rfl rfl h10) ?_
  refine seq_run0 (stp_conv tyU5 tyU56 rfl) ?_
  refine seq_run0 (stp_dat (stp_xor rfl rfl) rfl) ?_
  refine seq_run0 (stp_wrap _ rfl rfl (.inr (.inr ⟨rfl, rfl⟩))) ?_
  refine qe rfl ?_
  refine awp_plain hN rfl ?_
  refine seq_run0 (stp_add rfl rfl (by omega)) ?_
  refine qd rfl ?_
  exact ⟨_, backl H, ⟨rfl, rfl, rfl, rfl, trivial⟩, trivial⟩
theorem k_gateref2_OrderOf (l1 : (List S_api_Instance)) (key2 : Bs) (r : ((List Bs))) (H : m_gateref2_OrderOf l1 key2 = some r) : Fn Try.prog 25 [vlst (List.map C_api_Instance l1), vstr key2] (resOf [vlst (List.map C_string r)]) := by
 refine ⟨by kernel_rfl, pure_of (us := [vlst (List.map C_string r)]) Try.func25 rfl rfl rfl rfl fun X hN => ?_⟩
 unfold m_gateref2_OrderOf at H
 refine awp_seq ?_
 refine awp_plain hN rfl ?_
 refine qe rfl ?_
 refine awp_seq ?_
 refine awp_plain hN rfl ?_
 refine seq_run2 (stp_mkI 1 tyM55) rfl ?_
 refine seq_run2 (stp_alloc 2 tyZ55 rfl) rfl ?_
 refine seq_run2 (stp_storeM tyS55 rfl rfl rfl) rfl ?_
 refine awp_seq ?_
 refine awp_plain hN rfl ?_
 refine qe rfl ?_
 refine awp_seq ?_
 refine awp_seq ?_
 refine awp_plain hN rfl ?_
 refine qd rfl ?_
 refine seq_run0 (t_len tyU26 rfl) ?_
 refine qd rfl ?_
 refine awp_block ?_
 refine awp_nilrow 6 3 9 1 rfl rfl rfl ?_
 obtain ⟨h8, H⟩ := gif H
 refine awp_forL (fun (k6 : Nat) (s : (Bs → Int) × Nat × (List Bs)) => [(1, .dat (vstr key2)), (5, .ptr 2 0), (6, .row 3 s.2.2.length), (11, .dat (vlst (List.map C_api_Instance l1))), (12, .dat (vint (l1.length : Int))), (13, .dat (vint (k6 : Int)))]) (fun (k6 : Nat) (s : (Bs → Int) × Nat × (List Bs)) => [(1, .opq none (mapIO Try.prog 9 3 s.2.1 s.1)), (2, .box none 55 [.mp 1]), (3, .row 9 1 (List.map C_string s.2.2))]) ((fun _ => 0), 0, []) H ⟨rfl, rfl, rfl, rfl, rfl, rfl, trivial⟩ ⟨rfl, rfl, rfl, trivial⟩ (fun _ _ => rfl) ?_ ?_
 ·rintro ⟨m3, m4, l5⟩ H
  replace H : gateref2_OrderOf_E1 m3 m4 l5 = some r := H
  unfold gateref2_OrderOf_E1 at H
  refine awp_seq ?_
  refine awp_plain hN rfl ?_
  refine seq_run0 (stp_lss rfl rfl) ?_
  refine awp_seq ?_
  refine awp_cond _ rfl (fun h => (lt_t h).elim) (fun h => ?_)
  refine awp_exit ?_
  refine awp_seq ?_
  refine awp_frzM 2 0 1 rfl rfl rfl ?_
  refine awp_frzB 2 [vmpI Try.prog 9 3 (m4, m3).1 (m4, m3).2] rfl rfl ?_
  refine awp_plain hN rfl ?_
  refine seq_run0 (stp_move (.row _ _) rfl) ?_
  refine seq_run0 (stp_mkfn (us := [_]) ⟨rfl, trivial⟩) ?_
  obtain ⟨r10, h11, H⟩ := bnd H
  obtain ⟨h12, H⟩ := gif H
  refine seq_callG (rn [(0, 3)]) [(0, _, _, some _)] [] (kt_slices_SortStableFunc_L_string_string_ l5 (fun (a0 : Bs) (a1 : Bs) => m_gateref2_OrderOf_1 a0 a1 (m4, m3)) 41 [vcell [[vmpI Try.prog 9 3 (m4, m3).1 (m4, m3).2]] 0 0] (fun a0 a1 r h => k_gateref2_OrderOf_1 a0 a1 (m4, m3) r h) r10 h11) ⟨rfl, trivial⟩ ⟨.inl (.inl rfl), .inl (.inl rfl), trivial⟩ ⟨⟨⟨rfl, rfl, rfl⟩, by simp [stayP, h12]⟩, trivial⟩ rfl ?_
  refine awp_seq ?_
  refine awp_plain hN rfl ?_
  refine seq_run0 (stp_move (.row _ _) rfl) ?_
  refine seq_run0 (stp_assign (.row _ _) rfl) ?_
  refine awp_ret ?_
  cases H
  exact ⟨trivial, t_slotv rfl (h12).symm, trivial⟩
 ·rintro k6 x9 ⟨m3, m4, l5⟩ q7 h13 h14 H hq7
  replace H : gateref2_OrderOf_L1 key2 k6 x9 m3 m4 l5 = some q7 := H
  unfold gateref2_OrderOf_L1 at H
  refine awp_seq ?_
  refine awp_plain hN rfl ?_
  refine seq_run0 (stp_lss rfl rfl) ?_
  refine awp_seq ?_
  refine awp_cond _ rfl (fun h => ?_) (fun h => (lt_f h13 h).elim)
  refine awp_skip ?_
  refine awp_seq ?_
  refine awp_block ?_
  refine awp_seq ?_
  refine awp_plain hN rfl ?_
  refine seq_run0 (t_idx tyE26 (fun _ => rfl) rfl rfl h14) ?_
  refine seq_run0 (stp_loadEA tyS45 rfl (map_at h14) rfl) ?_
  refine seq_run2 (stp_alloc 4 tyZ45 rfl) rfl ?_
  refine seq_run2 (stp_storeW tyS45 rfl rfl rfl rfl) rfl ?_
  refine awp_seq ?_
  refine awp_plain hN rfl ?_
  refine qd rfl ?_
  refine seq_run0 (stp_fldP tyF45_0 rfl) ?_
  refine seq_run1 (stp_load1 tyS9 rfl rfl) rfl ?_
  refine seq_run0 (stp_dat (u' := vlst (List.map C_string [key2, x9.Key])) (stp_lit [[_], [_]] tyL28 ⟨rfl, .inl ⟨_, rfl, rfl, rfl⟩, rfl, rfl, .inl ⟨_, rfl, rfl, rfl⟩, rfl, trivial⟩ rfl rfl) rfl) ?_
  obtain ⟨r15, h16, H⟩ := bnd H
  refine seq_run0 (stp_call (k_gateref2_hashed [key2, x9.Key] r15 h16) ⟨.inl rfl, trivial⟩) ?_
  refine qe rfl ?_
  refine awp_seq ?_
  refine awp_plain hN rfl ?_
  refine qd rfl ?_
  refine qd rfl ?_
  refine seq_run0 (stp_dat (stp_shr rfl rfl (by decide)) rfl) ?_
  refine seq_run0 (stp_dat (stp_xor rfl rfl) rfl) ?_
  refine qe rfl ?_
  refine awp_seq ?_
  refine awp_plain hN rfl ?_
  refine seq_run1 (stp_load1 tyS55 rfl rfl) rfl ?_
  refine seq_run0 (stp_fldP tyF45_0 rfl) ?_
  refine seq_run1 (stp_load1 tyS9 rfl rfl) rfl ?_
  refine qd rfl ?_
  refine seq_run0 (stp_remK rfl rfl (by decide)) ?_
  refine seq_run0 (stp_conv tyU56 tyU3 rfl) ?_
  refine seq_run0 (stp_fldP tyF45_1 rfl) ?_
  refine seq_run1 (stp_load1 tyS3 rfl rfl) rfl ?_
  refine seq_run0 (stp_wrap _ rfl rfl (.inr (.inr ⟨rfl, rfl⟩))) ?_
  obtain ⟨h17, H⟩ := gif H
  refine seq_run2 (stp_putI tyM55 rfl rfl rfl h17.1 h17.2.1 h17.2.2) rfl ?_
  refine awp_plain hN rfl ?_
  refine seq_run0 (stp_move (.row _ _) rfl) ?_
  refine seq_run0 (stp_fldP tyF45_0 rfl) ?_
  refine seq_run1 (stp_load1 tyS9 rfl rfl) rfl ?_
  refine seq_run0 (stp_dat (u' := vlst (List.map C_string [x9.Key])) (stp_lit [[_]] tyL28 ⟨rfl, .inl ⟨_, rfl, rfl, rfl⟩, rfl, trivial⟩ rfl rfl) rfl) ?_
  obtain ⟨h18, H⟩ := gif H
  refine seq_run2 (t_app tyL28 (fun _ => rfl) rfl rfl rfl ⟨by simp, by first | (simp; done) | simpa using h18⟩ rfl) rfl ?_
  refine seq_run0 (stp_assign (.row _ _) rfl) ?_
  refine awp_plain hN rfl ?_
  refine seq_run0 (stp_add rfl rfl (by omega)) ?_
  refine qd rfl ?_
  exact ⟨_, backl H, ⟨rfl, rfl, rfl, rfl, rfl, rfl, trivial⟩, ⟨rfl, rfl, rfl, trivial⟩⟩
theorem k_gateref2_MovedOf (a1 : (List S_api_Instance)) (b2 : (List S_api_Instance)) (keys3 : (List Bs)) (r : ((List Bs))) (H : m_gateref2_MovedOf a1 b2 keys3 = some r) : Fn Try.prog 15 [vlst (List.map C_api_Instance a1), vlst (List.map C_api_Instance b2), vlst (List.map C_string keys3)] (resOf [vlst (List.map C_string r)]) := by
 refine ⟨by kernel_rfl, pure_of (us := [vlst (List.map C_string r)]) Try.func15 rfl rfl rfl rfl fun X hN => ?_⟩
 unfold m_gateref2_MovedOf at H
 refine awp_seq ?_
 refine awp_plain hN rfl ?_
 refine qe rfl ?_
 refine awp_seq ?_
 refine awp_plain hN rfl ?_
 refine qe rfl ?_
 refine awp_seq ?_
 refine awp_seq ?_
 refine awp_plain hN rfl ?_
 refine qd rfl ?_
 refine seq_run0 (t_len tyU28 rfl) ?_
 refine qd rfl ?_
 refine awp_block ?_
 refine awp_nilrow 7 1 9 1 rfl rfl rfl ?_
 obtain ⟨h7, H⟩ := gif H
 refine awp_forL (fun (k5 : Nat) (s : (List Bs)) => [(0, .dat (vlst (List.map C_api_Instance a1))), (1, .dat (vlst (List.map C_api_Instance b2))), (7, .row 1 s.length), (10, .dat (vlst (List.map C_string keys3))), (11, .dat (vint (keys3.length : Int))), (12, .dat (vint (k5 : Int)))]) (fun (k5 : Nat) (s : (List Bs)) => [(1, .row 9 1 (List.map C_string s))]) [] H ⟨rfl, rfl, rfl, rfl, rfl, rfl, trivial⟩ ⟨rfl, trivial⟩ (fun _ _ => rfl) ?_ ?_
 ·rintro l4 H
  replace H : gateref2_MovedOf_E1 l4 = some r := H
  unfold gateref2_MovedOf_E1 at H
  refine awp_seq ?_
  refine awp_plain hN rfl ?_
  refine seq_run0 (stp_lss rfl rfl) ?_
  refine awp_seq ?_
  refine awp_cond _ rfl (fun h => (lt_t h).elim) (fun h => ?_)
  refine awp_exit ?_
  refine awp_seq ?_
  refine awp_plain hN rfl ?_
  refine seq_run0 (stp_move (.row _ _) rfl) ?_
  refine seq_run0 (stp_assign (.row _ _) rfl) ?_
  refine awp_ret ?_
  cases H
  exact ⟨trivial, t_slotv rfl rfl, trivial⟩
 ·rintro k5 x8 l4 q6 h9 h10 H hq6
  replace H : gateref2_MovedOf_L1 a1 b2 k5 x8 l4 = some q6 := H
  unfold gateref2_MovedOf_L1 at H
  refine awp_seq ?_
  refine awp_plain hN rfl ?_
  refine seq_run0 (stp_lss rfl rfl) ?_
  refine awp_seq ?_
  refine awp_cond _ rfl (fun h => ?_) (fun h => (lt_f h9 h).elim)
  refine awp_skip ?_
  refine awp_joinE (ι := (List Bs)) (fun i => [(0, .dat (vlst (List.map C_api_Instance a1))), (1, .dat (vlst (List.map C_api_Instance b2))), (7, .row 1 i.length), (10, .dat (vlst (List.map C_string keys3))), (11, .dat (vint (keys3.length : Int))), (12, .dat (vint (k5 : Int)))]) (fun i => [(1, .row 9 1 (List.map C_string i))]) (fun i => gateref2_MovedOf_J2 i = some q6) (fun i => rfl) ?_ ?_
  ·skip
   refine awp_block ?_
   refine awp_seq ?_
   refine awp_plain hN rfl ?_
   refine seq_run0 (t_idx tyE28 (fun _ => rfl) rfl rfl h10) ?_
   refine seq_run0 (stp_loadE1 tyS9 rfl (map_at h10) rfl) ?_
   refine qe rfl ?_
   refine awp_seq ?_
   refine awp_draw mixed hN rfl rfl ?_
   refine qd rfl ?_
   refine qd rfl ?_
   obtain ⟨r11, h12, H⟩ := bnd H
   refine seq_run0 (stp_call (k_gateref2_OrderOf a1 x8 r11 h12) ⟨.inl rfl, .inl rfl, trivial⟩) ?_
   obtain ⟨x13, h14, H⟩ := bnd H
   refine seq_run0 (t_idx tyE28 (fun _ => rfl) rfl rfl h14) ?_
   refine seq_run0 (stp_loadE1 tyS9 rfl (map_at h14) rfl) ?_
   refine qd rfl ?_
   refine qd rfl ?_
   obtain ⟨r15, h16, H⟩ := bnd H
   refine seq_run0 (stp_call (k_gateref2_OrderOf b2 x8 r15 h16) ⟨.inl rfl, .inl rfl, trivial⟩) ?_
   obtain ⟨x17, h18, H⟩ := bnd H
   refine seq_run0 (t_idx tyE28 (fun _ => rfl) rfl rfl h18) ?_
   refine seq_run0 (stp_loadE1 tyS9 rfl (map_at h18) rfl) ?_
   refine seq_run0 (stp_sneq rfl rfl) ?_
   refine ⟨rfl, ?_⟩
   refine awp_cond _ rfl (fun h19 => ?_) (fun h19 => ?_)
   ·replace H := ift h19 H
    refine awp_plain hN rfl ?_
    refine seq_run0 (stp_move (.row _ _) rfl) ?_
    refine qd rfl ?_
    refine seq_run0 (stp_dat (u' := vlst (List.map C_string [x8])) (stp_lit [[_]] tyL28 ⟨rfl, .inl ⟨_, rfl, rfl, rfl⟩, rfl, trivial⟩ rfl rfl) rfl) ?_
    obtain ⟨h20, H⟩ := gif H
    refine seq_run2 (t_app tyL28 (fun _ => rfl) rfl rfl rfl ⟨by simp, by first | (simp; done) | simpa using h20⟩ rfl) rfl ?_
    refine seq_run0 (stp_assign (.row _ _) rfl) ?_
    exact ⟨(l4 ++ [x8]), H, ⟨rfl, rfl, rfl, rfl, rfl, rfl, trivial⟩, ⟨rfl, trivial⟩⟩
   ·replace H := iff_ h19 H
    refine awp_skip ?_
    exact ⟨l4, H, ⟨rfl, rfl, rfl, rfl, rfl, rfl, trivial⟩, ⟨rfl, trivial⟩⟩
  ·rintro out21 H
   replace H : gateref2_MovedOf_J2 out21 = some q6 := H
   unfold gateref2_MovedOf_J2 at H
   refine awp_plain hN rfl ?_
   refine seq_run0 (stp_add rfl rfl (by omega)) ?_
   refine qd rfl ?_
   exact ⟨_, backl H, ⟨rfl, rfl, rfl, rfl, rfl, rfl, trivial⟩, ⟨rfl, trivial⟩⟩
theorem k_gateref2_OrderKey (key1 : Bs) (r : (Int)) (H : m_gateref2_OrderKey key1 = some r) : Fn Try.prog 11 [vstr key1] (resOf [vint r]) := by
 refine ⟨by kernel_rfl, pure_of (us := [vint r]) Try.func11 rfl rfl rfl rfl fun X hN => ?_⟩
 unfold m_gateref2_OrderKey at H
 refine awp_seq ?_
 refine awp_plain hN rfl ?_
 refine qe rfl ?_
 refine awp_seq ?_
 refine awp_seq ?_
 refine awp_plain hN rfl ?_
 refine qd rfl ?_
 refine seq_run0 (stp_len_str tyU9 rfl) ?_
 obtain ⟨r2, h3, H⟩ := bnd H
 refine seq_run0 (stp_call (k_gateref2_in (key1.length : Int) 1 40 r2 h3) ⟨.inl rfl, .inl rfl, .inl rfl, trivial⟩) ?_
 refine seq_run0 (stp_not rfl) ?_
 refine awp_cond _ rfl (fun h4 => ?_) (fun h4 => ?_)
 ·replace H := ift h4 H
  refine awp_seq ?_
  refine awp_plain hN rfl ?_
  refine qe rfl ?_
  refine awp_ret ?_
  cases H
  exact ⟨trivial, .inl rfl, trivial⟩
 ·replace H := iff_ h4 H
  refine awp_skip ?_
  refine awp_seq ?_
  refine awp_plain hN rfl ?_
  refine qe rfl ?_
  refine awp_ret ?_
  cases H
  exact ⟨trivial, .inl rfl, trivial⟩
theorem k_gatelaw2_KeysMoved (v1 : (List Int)) (r : (Bool)) (H : m_gatelaw2_KeysMoved v1 = some r) : Fn Try.prog 3 [vlst (List.map C_int v1)] (resOf [vbool r]) := by
 refine ⟨by kernel_rfl, pure_of (us := [vbool r]) Try.func3 rfl rfl rfl rfl fun X hN => ?_⟩
 unfold m_gatelaw2_KeysMoved at H
 refine awp_seq ?_
 refine awp_plain hN rfl ?_
 refine qe rfl ?_
 refine awp_seq ?_
 refine awp_plain hN rfl ?_
 refine qd rfl ?_
 refine seq_run0 (stp_dat (u' := vagg (C_gatemake_Stream (S_gatemake_Stream.mk v1 0))) (stp_build [(0, [vlst (List.map C_int v1)])] tyZ25 tyP25 rfl ⟨rfl, .inl ⟨_, rfl, rfl, rfl⟩, rfl, trivial⟩) rfl) ?_
 refine seq_run2 (stp_boxA 1 rfl) rfl ?_
 refine seq_run0 (stp_assign (.ptr _ _) rfl) ?_
 refine awp_seq ?_
 refine awp_plain hN rfl ?_
 refine seq_run0 (stp_move (.ptr _ _) rfl) ?_
 obtain ⟨r2, h3, H⟩ := bnd H
 refine seq_run2 (stp_imp (k_gatemake_Stream_Instances (S_gatemake_Stream.mk v1 0) r2 h3) rfl trivial rfl) rfl ?_
 refine seq_run0 (stp_move (.ptr _ _) rfl) ?_
 obtain ⟨r4, h5, H⟩ := bnd H
 refine seq_run2 (stp_imp (k_gatemake_Stream_Instances r2.2 r4 h5) rfl trivial rfl) rfl ?_
 refine qe rfl ?_
 refine qe rfl ?_
 refine awp_seq ?_
 refine awp_plain hN rfl ?_
 refine qe rfl ?_
 refine awp_seq ?_
 refine awp_seq ?_
 refine awp_plain hN rfl ?_
 refine seq_run0 (stp_move (.ptr _ _) rfl) ?_
 obtain ⟨r6, h7, H⟩ := bnd H
 refine seq_run2 (stp_imp (k_gatemake_Stream_Range r4.2 0 6 r6 h7) rfl ⟨.inl rfl, .inl rfl, trivial⟩ rfl) rfl ?_
 refine qd rfl ?_
 refine awp_block ?_
 refine awp_nilrow 6 2 9 1 rfl rfl rfl ?_
 obtain ⟨h13, H⟩ := gif H
 refine awp_rng (fun (k11 : Nat) (s : (List Int) × Int × (List Bs)) => [(3, .ptr 1 0), (4, .dat (vlst (List.map C_api_Instance r2.1))), (5, .dat (vlst (List.map C_api_Instance r4.1))), (6, .row 2 s.2.2.length), (20, .dat (vint r6.1)), (21, .dat (vint (k11 : Int)))]) (fun (k11 : Nat) (s : (List Int) × Int × (List Bs)) => [(1, .box none 25 [.dat (vlst (List.map C_int s.1)), .dat (vint s.2.1)]), (2, .row 9 1 (List.map C_string s.2.2))]) (r6.2.L, r6.2.at_, []) H ⟨rfl, rfl, rfl, rfl, rfl, rfl, trivial⟩ ⟨rfl, rfl, trivial⟩ (fun _ _ => rfl) ?_ ?_
 ·rintro ⟨c8, c9, l10⟩ H
  replace H : gatelaw2_KeysMoved_E1 r2 r4 c8 c9 l10 = some r := H
  unfold gatelaw2_KeysMoved_E1 at H
  refine awp_seq ?_
  refine awp_plain hN rfl ?_
  refine seq_run0 (stp_lss rfl rfl) ?_
  refine awp_seq ?_
  refine awp_cond _ rfl (fun h => (lt_tI h).elim) (fun h => ?_)
  refine awp_exit ?_
  refine awp_joinE (ι := (List Bs)) (fun i => [(4, .dat (vlst (List.map C_api_Instance r2.1))), (5, .dat (vlst (List.map C_api_Instance r4.1))), (6, .row 2 i.length)]) (fun i => [(2, .row 9 1 (List.map C_string i))]) (fun i => gatelaw2_KeysMoved_J2 r2 r4 i = some r) (fun i => rfl) ?_ ?_
  ·skip
   refine awp_seq ?_
   refine awp_plain hN rfl ?_
   refine seq_run0 (stp_move (.ptr _ _) rfl) ?_
   obtain ⟨r14, h15, H⟩ := bnd H
   refine seq_run2 (stp_imp (k_gatemake_Stream_Flip (S_gatemake_Stream.mk c8 c9) 20 r14 h15) rfl ⟨.inl rfl, trivial⟩ rfl) rfl ?_
   refine awp_cond _ rfl (fun h16 => ?_) (fun h16 => ?_)
   ·replace H := ift h16 H
    refine awp_plain hN rfl ?_
    refine seq_run0 (stp_move (.row _ _) rfl) ?_
    refine seq_run0 (stp_dat (u' := vlst (List.map C_string [[]])) (stp_lit [[_]] tyL28 ⟨rfl, .inl ⟨_, rfl, rfl, rfl⟩, rfl, trivial⟩ rfl rfl) rfl) ?_
    obtain ⟨h17, H⟩ := gif H
    refine seq_run2 (t_app tyL28 (fun _ => rfl) rfl rfl rfl ⟨by simp, by first | (simp; done) | simpa using h17⟩ rfl) rfl ?_
    refine seq_run0 (stp_assign (.row _ _) rfl) ?_
    exact ⟨(l10 ++ ([[]])), H, ⟨rfl, rfl, rfl, trivial⟩, ⟨rfl, trivial⟩⟩
   ·replace H := iff_ h16 H
    refine awp_skip ?_
    exact ⟨l10, H, ⟨rfl, rfl, rfl, trivial⟩, ⟨rfl, trivial⟩⟩
  ·rintro v18 H
   replace H : gatelaw2_KeysMoved_J2 r2 r4 v18 = some r := H
   unfold gatelaw2_KeysMoved_J2 at H
   refine awp_seq ?_
   refine t_freeze 6 2 rfl rfl rfl ?_
   refine awp_plain hN rfl ?_
   refine qd rfl ?_
   refine qd rfl ?_
   refine qd rfl ?_
   obtain ⟨r19, h20, H⟩ := bnd H
   refine seq_run0 (stp_call (k_upstream_Moved r2.1 r4.1 v18 r19 h20) ⟨.inl rfl, .inl rfl, .inl rfl, trivial⟩) ?_
   refine qd rfl ?_
   refine seq_run0 (stp_ext rfl rfl) ?_
   refine seq_run0 (stp_ext rfl rfl) ?_
   refine qe rfl ?_
   refine qe rfl ?_
   refine awp_seq ?_
   refine awp_plain hN rfl ?_
   refine qd rfl ?_
   obtain ⟨r21, h22, H⟩ := bnd H
   refine seq_run0 (stp_call (k_gateref2_InstancesFault r2.1 r21 h22) ⟨.inl rfl, trivial⟩) ?_
   refine qd rfl ?_
   obtain ⟨r23, h24, H⟩ := bnd H
   refine seq_run0 (stp_call (k_gateref2_InstancesFault r4.1 r23 h24) ⟨.inl rfl, trivial⟩) ?_
   refine seq_run0 (stp_dat (u' := vlst (List.map C_api_Errno [r21, r23])) (stp_lit [[_], [_]] tyL49 ⟨rfl, .inl ⟨_, rfl, rfl, rfl⟩, rfl, rfl, .inl ⟨_, rfl, rfl, rfl⟩, rfl, trivial⟩ rfl rfl) rfl) ?_
   obtain ⟨r25, h26, H⟩ := bnd H
   refine seq_run0 (stp_call (k_gatelaw2_errs [r21, r23] r25 h26) ⟨.inl rfl, trivial⟩) ?_
   refine qe rfl ?_
   refine awp_seq ?_
   refine awp_seq ?_
   refine awp_plain hN rfl ?_
   refine qd rfl ?_
   refine seq_run0 (t_len tyU28 rfl) ?_
   refine qd rfl ?_
   refine awp_block ?_
   obtain ⟨h30, H⟩ := gif H
   refine awp_forL (fun (k28 : Nat) (s : Int) => [(4, .dat (vlst (List.map C_api_Instance r2.1))), (5, .dat (vlst (List.map C_api_Instance r4.1))), (6, .dat (vlst (List.map C_string v18))), (7, .dat (vlst (List.map C_string r19.1))), (8, .dat (vint r19.2)), (9, .dat (vint s)), (48, .dat (vlst (List.map C_string v18))), (49, .dat (vint (v18.length : Int))), (50, .dat (vint (k28 : Int)))]) (fun (k28 : Nat) (s : Int) => []) r25 H ⟨rfl, rfl, rfl, rfl, rfl, rfl, rfl, rfl, rfl, trivial⟩ trivial (fun _ _ => rfl) ?_ ?_
   ·rintro v27 H
    replace H : gatelaw2_KeysMoved_E3 r2 r4 v18 r19 v27 = some r := H
    unfold gatelaw2_KeysMoved_E3 at H
    refine awp_seq ?_
    refine awp_plain hN rfl ?_
    refine seq_run0 (stp_lss rfl rfl) ?_
    refine awp_seq ?_
    refine awp_cond _ rfl (fun h => (lt_t h).elim) (fun h => ?_)
    refine awp_exit ?_
    refine awp_seq ?_
    refine awp_seq ?_
    refine awp_plain hN rfl ?_
    refine qd rfl ?_
    refine qd rfl ?_
    refine seq_run0 (t_len tyU26 rfl) ?_
    refine seq_run0 (stp_eql rfl rfl) ?_
    refine qd rfl ?_
    refine seq_aF rfl rfl (fun hc => stp_move (.dat _) rfl) ?_
    refine seq_aF rfl rfl (fun hc => t_len tyU26 (cnd (c := (!(decide ((r2.1.length : Int) = 0)))) hc)) ?_
    refine seq_aF rfl rfl (fun hc => stp_eql (cnd (c := (!(decide ((r2.1.length : Int) = 0)))) hc) rfl) ?_
    refine seq_run0 (stp_pick_or rfl rfl (fun hb => (cnd (c := (!(decide ((r2.1.length : Int) = 0)))) (notI hb)))) ?_
    obtain ⟨r32, h33, H⟩ := bnd H
    refine seq_run0 (stp_call (k_gatelaw2_when ((decide ((r2.1.length : Int) = 0)) || (decide ((r4.1.length : Int) = 0))) 8 r32 h33) ⟨.inl rfl, .inl rfl, trivial⟩) ?_
    refine seq_run0 (stp_dat (u' := vlst (List.map C_api_Errno [v27, r32])) (stp_lit [[_], [_]] tyL49 ⟨rfl, .inl ⟨_, rfl, rfl, rfl⟩, rfl, rfl, .inl ⟨_, rfl, rfl, rfl⟩, rfl, trivial⟩ rfl rfl) rfl) ?_
    obtain ⟨r34, h35, H⟩ := bnd H
    refine seq_run0 (stp_call (k_gatelaw2_errs [v27, r32] r34 h35) ⟨.inl rfl, trivial⟩) ?_
    refine qe rfl ?_
    refine awp_seq ?_
    refine awp_plain hN rfl ?_
    refine qd rfl ?_
    refine seq_run0 (stp_neq rfl rfl) ?_
    refine awp_cond _ rfl (fun h36 => ?_) (fun h36 => ?_)
    ·replace H := ift h36 H
     refine awp_joinE (ι := Bool) (fun i => [(2, .dat (vbool i))]) (fun i => []) (fun i => gatelaw2_KeysMoved_J4 i = some r) (fun i => rfl) ?_ ?_
     ·skip
      refine awp_plain hN rfl ?_
      refine qd rfl ?_
      refine qd rfl ?_
      refine seq_run0 (stp_eql rfl rfl) ?_
      refine qd rfl ?_
      refine seq_split (j := 3) rfl rfl (fun h37 => ?_) (fun h37 => ?_) rfl
      ·have h38 := un1 h37
       replace H := ift h38 H
       refine seq_g0 rfl rfl h37 (stp_move (.dat _) rfl) ?_
       refine seq_g0 rfl rfl h37 (t_len tyU28 rfl) ?_
       refine seq_g0 rfl rfl h37 (stp_eql rfl rfl) ?_
       refine seq_run0 (stp_pick_t rfl (bTT h38) rfl) ?_
       refine qd rfl ?_
       refine seq_split (j := 8) rfl rfl (fun h39 => ?_) (fun h39 => ?_) rfl
       ·have h40 := un1 h39
        replace H := ift h40 H
        obtain ⟨r41, h42, H⟩ := bnd H
        refine seq_g0 rfl rfl h39 (stp_call (k_gatelaw2_balanced  r41 h42) trivial) ?_
        refine seq_run0 (stp_pick_t rfl (bTT h40) rfl) ?_
        refine qe rfl ?_
        exact ⟨r41, H, ⟨rfl, trivial⟩, trivial⟩
       ·have h43 := un2 h39
        replace H := iff_ h43 H
        refine seq_skip rfl rfl h39 ?_
        refine seq_run0 (stp_pick_f rfl (bFF h43) rfl) ?_
        refine qe rfl ?_
        exact ⟨false, H, ⟨rfl, trivial⟩, trivial⟩
      ·have h44 := un2 h37
       replace H := iff_ h44 H
       refine seq_skip rfl rfl h37 ?_
       refine seq_skip rfl rfl h37 ?_
       refine seq_skip rfl rfl h37 ?_
       refine seq_run0 (stp_pick_f rfl (bFF h44) rfl) ?_
       refine qd rfl ?_
       refine seq_skip rfl rfl rfl ?_
       refine seq_run0 (stp_pick_f rfl rfl rfl) ?_
       refine qe rfl ?_
       exact ⟨false, H, ⟨rfl, trivial⟩, trivial⟩
     ·rintro v45 H
      replace H : gatelaw2_KeysMoved_J4 v45 = some r := H
      unfold gatelaw2_KeysMoved_J4 at H
      refine awp_ret ?_
      cases H
      exact ⟨trivial, .inl rfl, trivial⟩
    ·replace H := iff_ h36 H
     refine awp_skip ?_
     refine awp_joinE (ι := Bool) (fun i => [(2, .dat (vbool i))]) (fun i => []) (fun i => gatelaw2_KeysMoved_J5 i = some r) (fun i => rfl) ?_ ?_
     ·skip
      refine awp_plain hN rfl ?_
      refine qd rfl ?_
      refine seq_run0 (stp_eql rfl rfl) ?_
      refine qd rfl ?_
      refine seq_split (j := 2) rfl rfl (fun h46 => ?_) (fun h46 => ?_) rfl
      ·have h47 := un1 h46
       replace H := ift h47 H
       refine seq_g0 rfl rfl h46 (stp_move (.dat _) rfl) ?_
       refine seq_g0 rfl rfl h46 (stp_move (.dat _) rfl) ?_
       refine seq_g0 rfl rfl h46 (stp_move (.dat _) rfl) ?_
       refine seq_g0 rfl rfl h46 (stp_move (.dat _) rfl) ?_
       obtain ⟨r48, h49, H⟩ := bnd H
       refine seq_g0 rfl rfl h46 (stp_call (k_gateref2_MovedOf r2.1 r4.1 v18 r48 h49) ⟨.inl rfl, .inl rfl, .inl rfl, trivial⟩) ?_
       obtain ⟨r50, h51, H⟩ := bnd H
       refine seq_g0 rfl rfl h46 (stp_call (k_slices_Equal_L_string_string_ r19.1 r48 r50 h51) ⟨.inl rfl, .inl rfl, trivial⟩) ?_
       refine seq_run0 (stp_pick_t rfl (bTT h47) rfl) ?_
       refine qd rfl ?_
       refine seq_split (j := 10) rfl rfl (fun h52 => ?_) (fun h52 => ?_) rfl
       ·have h53 := un1 h52
        replace H := ift h53 H
        obtain ⟨r54, h55, H⟩ := bnd H
        refine seq_g0 rfl rfl h52 (stp_call (k_gatelaw2_balanced  r54 h55) trivial) ?_
        refine seq_run0 (stp_pick_t rfl (bTT h53) rfl) ?_
        refine qe rfl ?_
        exact ⟨r54, H, ⟨rfl, trivial⟩, trivial⟩
       ·have h56 := un2 h52
        replace H := iff_ h56 H
        refine seq_skip rfl rfl h52 ?_
        refine seq_run0 (stp_pick_f rfl (bFF h56) rfl) ?_
        refine qe rfl ?_
        exact ⟨false, H, ⟨rfl, trivial⟩, trivial⟩
      ·have h57 := un2 h46
       replace H := iff_ h57 H
       refine seq_skip rfl rfl h46 ?_
       refine seq_skip rfl rfl h46 ?_
       refine seq_skip rfl rfl h46 ?_
       refine seq_skip rfl rfl h46 ?_
       refine seq_skip rfl rfl h46 ?_
       refine seq_skip rfl rfl h46 ?_
       refine seq_run0 (stp_pick_f rfl (bFF h57) rfl) ?_
       refine qd rfl ?_
       refine seq_skip rfl rfl rfl ?_
       refine seq_run0 (stp_pick_f rfl rfl rfl) ?_
       refine qe rfl ?_
       exact ⟨false, H, ⟨rfl, trivial⟩, trivial⟩
     ·rintro v58 H
      replace H : gatelaw2_KeysMoved_J5 v58 = some r := H
      unfold gatelaw2_KeysMoved_J5 at H
      refine awp_ret ?_
      cases H
      exact ⟨trivial, .inl rfl, trivial⟩
   ·rintro k28 x31 v27 q29 h59 h60 H hq29
    replace H : gatelaw2_KeysMoved_L3 k28 x31 v27 = some q29 := H
    unfold gatelaw2_KeysMoved_L3 at H
    refine awp_seq ?_
    refine awp_plain hN rfl ?_
    refine seq_run0 (stp_lss rfl rfl) ?_
    refine awp_seq ?_
    refine awp_cond _ rfl (fun h => ?_) (fun h => (lt_f h59 h).elim)
    refine awp_skip ?_
    refine awp_seq ?_
    refine awp_block ?_
    refine awp_seq ?_
    refine awp_plain hN rfl ?_
    refine seq_run0 (t_idx tyE28 (fun _ => rfl) rfl rfl h60) ?_
    refine seq_run0 (stp_loadE1 tyS9 rfl (map_at h60) rfl) ?_
    refine qe rfl ?_
    refine awp_plain hN rfl ?_
    refine qd rfl ?_
    refine qd rfl ?_
    obtain ⟨r61, h62, H⟩ := bnd H
    refine seq_run0 (stp_call (k_gateref2_OrderKey x31 r61 h62) ⟨.inl rfl, trivial⟩) ?_
    refine seq_run0 (stp_dat (u' := vlst (List.map C_api_Errno [v27, r61])) (stp_lit [[_], [_]] tyL49 ⟨rfl, .inl ⟨_, rfl, rfl, rfl⟩, rfl, rfl, .inl ⟨_, rfl, rfl, rfl⟩, rfl, trivial⟩ rfl rfl) rfl) ?_
    obtain ⟨r63, h64, H⟩ := bnd H
    refine seq_run0 (stp_call (k_gatelaw2_errs [v27, r61] r63 h64) ⟨.inl rfl, trivial⟩) ?_
    refine qe rfl ?_
    refine awp_plain hN rfl ?_
    refine seq_run0 (stp_add rfl rfl (by omega)) ?_
    refine qd rfl ?_
    exact ⟨_, backl H, ⟨rfl, rfl, rfl, rfl, rfl, rfl, rfl, rfl, rfl, trivial⟩, trivial⟩
 ·rintro k11 ⟨c8, c9, l10⟩ q12 h65 H hq12
  replace H : gatelaw2_KeysMoved_L1 k11 c8 c9 l10 = some q12 := H
  unfold gatelaw2_KeysMoved_L1 at H
  refine awp_seq ?_
  refine awp_plain hN rfl ?_
  refine seq_run0 (stp_lss rfl rfl) ?_
  refine awp_seq ?_
  refine awp_cond _ rfl (fun h => ?_) (fun h => (lt_fI h65 h).elim)
  refine awp_skip ?_
  refine awp_seq ?_
  refine awp_block ?_
  refine awp_plain hN rfl ?_
  refine seq_run0 (stp_move (.row _ _) rfl) ?_
  refine seq_run0 (stp_move (.ptr _ _) rfl) ?_
  refine seq_run0 (stp_dat (u' := vlst (List.map C_string [[107, 49], [107, 50], [107, 51], [117, 115, 101, 114, 45, 55], [122]])) (stp_lit [[_], [_], [_], [_], [_]] tyL28 ⟨rfl, .inl ⟨_, rfl, rfl, rfl⟩, rfl, rfl, .inl ⟨_, rfl, rfl, rfl⟩, rfl, rfl, .inl ⟨_, rfl, rfl, rfl⟩, rfl, rfl, .inl ⟨_, rfl, rfl, rfl⟩, rfl, rfl, .inl ⟨_, rfl, rfl, rfl⟩, rfl, trivial⟩ rfl rfl) rfl) ?_
  obtain ⟨r66, h67, H⟩ := bnd H
  refine seq_run2 (stp_imp (k_gatemake_Stream_Some (S_gatemake_Stream.mk c8 c9) ([[107, 49], [107, 50], [107, 51], [117, 115, 101, 114, 45, 55], [122]]) r66 h67) rfl ⟨.inl rfl, trivial⟩ rfl) rfl ?_
  refine seq_run0 (stp_dat (u' := vlst (List.map C_string [r66.1])) (stp_lit [[_]] tyL28 ⟨rfl, .inl ⟨_, rfl, rfl, rfl⟩, rfl, trivial⟩ rfl rfl) rfl) ?_
  obtain ⟨h68, H⟩ := gif H
  refine seq_run2 (t_app tyL28 (fun _ => rfl) rfl rfl rfl ⟨by simp, by first | (simp; done) | simpa using h68⟩ rfl) rfl ?_
  refine seq_run0 (stp_assign (.row _ _) rfl) ?_
  refine awp_plain hN rfl ?_
  refine seq_run0 (stp_add rfl rfl (by omega)) ?_
  refine qd rfl ?_
  exact ⟨_, backl H, ⟨rfl, rfl, rfl, rfl, rfl, rfl, trivial⟩, ⟨rfl, rfl, trivial⟩⟩
end Go.Proofs.Ytmlbmkfbleicaaa
