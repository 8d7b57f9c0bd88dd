/- Walks along the models. Printed by a program. -/
import Derived.Test.YtmlbmkfbleicaaaGreatYiw1
namespace Go.Proofs.YtmlbmkfbleicaaaGreat
open Go.RowKit
set_option linter.unusedVariables false
set_option maxRecDepth 20000
set_option maxHeartbeats 2000000
theorem k_cmp_Or_int_ (vals1 : (List Int)) (r : (Int)) (H : m_cmp_Or_int_ vals1 = some r) : Fn Tryz.prog 59 [vlst (List.map C_int vals1)] (resOf [vint r]) := by
 refine ⟨by kernel_rfl, pure_of (us := [vint r]) Tryz.func59 rfl rfl rfl rfl fun X hN => ?_⟩
 unfold m_cmp_Or_int_ at H
 refine awp_seq ?_
 refine awp_plain hN rfl ?_
 refine qe rfl ?_
 refine awp_seq ?_
 refine awp_plain hN rfl ?_
 refine qe rfl ?_
 refine awp_seq ?_
 refine awp_seq ?_
 refine awp_plain hN rfl ?_
 refine qd rfl ?_
 refine seq_run0 (t_len tyU22 rfl) ?_
 refine qd rfl ?_
 refine awp_block ?_
 obtain ⟨h4, H⟩ := gif H
 refine awp_forL (fun (k2 : Nat) (s : Unit) => [(3, .dat (vint 0)), (6, .dat (vlst (List.map C_int vals1))), (7, .dat (vint (vals1.length : Int))), (8, .dat (vint (k2 : Int)))]) (fun (k2 : Nat) (s : Unit) => []) () H ⟨rfl, rfl, rfl, rfl, trivial⟩ trivial (fun _ _ => rfl) ?_ ?_
 ·rintro ⟨⟩ H
  replace H : cmp_Or_int__E1 = some r := H
  unfold cmp_Or_int__E1 at H
  refine awp_seq ?_
  refine awp_plain hN rfl ?_
  refine seq_run0 (stp_lss rfl rfl) ?_
  refine awp_seq ?_
  refine awp_cond _ rfl (fun h => (lt_t h).elim) (fun h => ?_)
  refine awp_exit ?_
  refine awp_seq ?_
  refine awp_plain hN rfl ?_
  refine qd rfl ?_
  refine qe rfl ?_
  refine awp_ret ?_
  cases H
  exact ⟨trivial, .inl rfl, trivial⟩
 ·rintro k2 x5 ⟨⟩ q3 h6 h7 H hq3
  replace H : cmp_Or_int__L1 k2 x5 = some q3 := H
  unfold cmp_Or_int__L1 at H
  refine awp_seq ?_
  refine awp_plain hN rfl ?_
  refine seq_run0 (stp_lss rfl rfl) ?_
  refine awp_seq ?_
  refine awp_cond _ rfl (fun h => ?_) (fun h => (lt_f h6 h).elim)
  refine awp_skip ?_
  refine awp_seq ?_
  refine awp_block ?_
  refine awp_seq ?_
  refine awp_plain hN rfl ?_
  refine seq_run0 (t_idx tyE22 (fun _ => rfl) rfl rfl h7) ?_
  refine seq_run0 (stp_loadE1 tyS3 rfl (map_at h7) rfl) ?_
  refine qe rfl ?_
  refine awp_seq ?_
  refine awp_plain hN rfl ?_
  refine qd rfl ?_
  refine qd rfl ?_
  refine seq_run0 (stp_neq rfl rfl) ?_
  refine awp_cond _ rfl (fun h8 => ?_) (fun h8 => ?_)
  ·replace H := ift h8 H
   refine awp_seq ?_
   refine awp_plain hN rfl ?_
   refine qd rfl ?_
   refine qe rfl ?_
   refine awp_ret ?_
   replace H := retl H hq3
   cases H
   exact ⟨trivial, .inl rfl, trivial⟩
  ·replace H := iff_ h8 H
   refine awp_skip ?_
   refine awp_plain hN rfl ?_
   refine seq_run0 (stp_add rfl rfl (by omega)) ?_
   refine qd rfl ?_
   exact ⟨_, backl H, ⟨rfl, rfl, rfl, rfl, trivial⟩, trivial⟩
theorem k_upstream_ordered_1 (a1 : S_api_Instance) (b2 : S_api_Instance) (c3 : (Nat × (Bs → Int))) (r : (Int)) (H : m_upstream_ordered_1 a1 b2 c3 = some r) : Fn Tryz.prog 58 [vagg (C_api_Instance a1), vagg (C_api_Instance b2), vcell [[vmpI Tryz.prog 9 3 c3.1 c3.2]] 0 0] (resOf [vint r]) := by
 refine ⟨by kernel_rfl, pure_of (us := [vint r]) Tryz.func58 rfl rfl rfl rfl fun X hN => ?_⟩
 unfold m_upstream_ordered_1 at H
 refine awp_seq ?_
 refine awp_plain hN rfl ?_
 refine seq_run2 (stp_boxA 1 rfl) rfl ?_
 refine seq_run2 (stp_boxA 2 rfl) rfl ?_
 refine qe rfl ?_
 refine awp_seq ?_
 refine awp_draw mixed hN rfl rfl ?_
 refine seq_run0 (stp_loadE1 tyS73 rfl rfl rfl) ?_
 refine seq_run0 (stp_fldP tyF55_0 rfl) ?_
 refine seq_run1 (stp_load1 tyS9 rfl rfl) rfl ?_
 obtain ⟨h4, H⟩ := gif H
 refine seq_run0 (stp_lookV tyM73 rfl rfl h4) ?_
 refine seq_run0 (stp_loadE1 tyS73 rfl rfl rfl) ?_
 refine seq_run0 (stp_fldP tyF55_0 rfl) ?_
 refine seq_run1 (stp_load1 tyS9 rfl rfl) rfl ?_
 obtain ⟨h5, H⟩ := gif H
 refine seq_run0 (stp_lookV tyM73 rfl rfl h5) ?_
 obtain ⟨r6, h7, H⟩ := bnd H
 refine seq_run0 (stp_call (k_cmp_Compare_int_ (c3.2 b2.Key) (c3.2 a1.Key) r6 h7) ⟨.inl rfl, .inl rfl, trivial⟩) ?_
 refine seq_run0 (stp_fldP tyF55_0 rfl) ?_
 refine seq_run1 (stp_load1 tyS9 rfl rfl) rfl ?_
 refine seq_run0 (stp_fldP tyF55_0 rfl) ?_
 refine seq_run1 (stp_load1 tyS9 rfl rfl) rfl ?_
 obtain ⟨r8, h9, H⟩ := bnd H
 refine seq_run0 (stp_call (k_strings_Compare a1.Key b2.Key r8 h9) ⟨.inl rfl, .inl rfl, trivial⟩) ?_
 refine seq_run0 (stp_dat (u' := vlst (List.map C_int [r6, r8])) (stp_lit [[_], [_]] tyL22 ⟨rfl, .inl ⟨_, rfl, rfl, rfl⟩, rfl, rfl, .inl ⟨_, rfl, rfl, rfl⟩, rfl, trivial⟩ rfl rfl) rfl) ?_
 obtain ⟨r10, h11, H⟩ := bnd H
 refine seq_run0 (stp_call (k_cmp_Or_int_ [r6, r8] r10 h11) ⟨.inl rfl, trivial⟩) ?_
 refine qe rfl ?_
 refine ⟨rfl, ?_⟩
 refine awp_ret ?_
 cases H
 exact ⟨trivial, .inl rfl, trivial⟩
theorem k_upstream_Hash (s1 : Bs) (r : (Int)) (H : m_upstream_Hash s1 = some r) : Fn Tryz.prog 55 [vstr s1] (resOf [vval (.int .u64 r)]) := by
 refine ⟨by kernel_rfl, pure_of (us := [vval (.int .u64 r)]) Tryz.func55 rfl rfl rfl rfl fun X hN => ?_⟩
 unfold m_upstream_Hash at H
 refine awp_seq ?_
 refine awp_plain hN rfl ?_
 refine qe rfl ?_
 refine awp_seq ?_
 refine awp_plain hN rfl ?_
 refine qe rfl ?_
 refine awp_seq ?_
 refine awp_seq ?_
 refine awp_plain hN rfl ?_
 refine qd rfl ?_
 refine seq_run0 (stp_len_str tyU9 rfl) ?_
 refine qd rfl ?_
 refine awp_block ?_
 obtain ⟨h5, H⟩ := gif H
 refine awp_forL (fun (k3 : Nat) (s : Int) => [(0, .dat (vstr s1)), (3, .dat (vval (.int .u64 s))), (6, .dat (vint (s1.length : Int))), (7, .dat (vint (k3 : Int)))]) (fun (k3 : Nat) (s : Int) => []) 14695981039346656037 H ⟨rfl, rfl, rfl, rfl, trivial⟩ trivial (fun _ _ => rfl) ?_ ?_
 ·rintro h2 H
  replace H : upstream_Hash_E1 h2 = some r := H
  unfold upstream_Hash_E1 at H
  refine awp_seq ?_
  refine awp_plain hN rfl ?_
  refine seq_run0 (stp_lss rfl rfl) ?_
  refine awp_seq ?_
  refine awp_cond _ rfl (fun h => (lt_t h).elim) (fun h => ?_)
  refine awp_exit ?_
  refine awp_seq ?_
  refine awp_plain hN rfl ?_
  refine qd rfl ?_
  refine qd rfl ?_
  refine seq_run0 (stp_dat (stp_shr rfl rfl (by decide)) rfl) ?_
  refine seq_run0 (stp_dat (stp_xor rfl rfl) rfl) ?_
  refine qe rfl ?_
  refine awp_ret ?_
  cases H
  exact ⟨trivial, .inl rfl, trivial⟩
 ·rintro k3 x6 h2 q4 h7 h8 H hq4
  replace H : upstream_Hash_L1 k3 x6 h2 = some q4 := H
  unfold upstream_Hash_L1 at H
  refine awp_seq ?_
  refine awp_plain hN rfl ?_
  refine seq_run0 (stp_lss rfl rfl) ?_
  refine awp_seq ?_
  refine awp_cond _ rfl (fun h => ?_) (fun h => (lt_f h7 h).elim)
  refine awp_skip ?_
  refine awp_seq ?_
  refine awp_block ?_
  refine awp_seq ?_
  refine awp_plain hN rfl ?_
  refine qd rfl ?_
  refine qe rfl ?_
  refine awp_plain hN rfl ?_
  refine qd rfl ?_
  refine qd rfl ?_
  refine qd rfl ?_
  refine seq_run0 (t_byte tyU9 rfl rfl h8) ?_
  refine seq_run0 (stp_conv tyU5 tyU74 rfl) ?_
  refine seq_run0 (stp_dat (stp_xor rfl rfl) rfl) ?_
  refine seq_run0 (stp_wrap _ rfl rfl (.inr (.inr ⟨rfl, rfl⟩))) ?_
  refine qe rfl ?_
  refine awp_plain hN rfl ?_
  refine seq_run0 (stp_add rfl rfl (by omega)) ?_
  refine qd rfl ?_
  exact ⟨_, backl H, ⟨rfl, rfl, rfl, rfl, trivial⟩, trivial⟩
theorem k_upstream_ordered (l1 : (List S_api_Instance)) (key2 : Bs) (r : ((List S_api_Instance))) (H : m_upstream_ordered l1 key2 = some r) : Fn Tryz.prog 33 [vlst (List.map C_api_Instance l1), vstr key2] (resOf [vlst (List.map C_api_Instance r)]) := by
 refine ⟨by kernel_rfl, pure_of (us := [vlst (List.map C_api_Instance r)]) Tryz.func33 rfl rfl rfl rfl fun X hN => ?_⟩
 unfold m_upstream_ordered at H
 refine awp_seq ?_
 refine awp_plain hN rfl ?_
 refine qe rfl ?_
 refine awp_seq ?_
 refine awp_plain hN rfl ?_
 refine seq_run2 (stp_mkI 1 tyM73) rfl ?_
 refine seq_run2 (stp_alloc 2 tyZ73 rfl) rfl ?_
 refine seq_run2 (stp_storeM tyS73 rfl rfl rfl) rfl ?_
 refine awp_seq ?_
 refine awp_seq ?_
 refine awp_plain hN rfl ?_
 refine qd rfl ?_
 refine seq_run0 (t_len tyU26 rfl) ?_
 refine qd rfl ?_
 refine awp_block ?_
 obtain ⟨h7, H⟩ := gif H
 refine awp_forL (fun (k5 : Nat) (s : (Bs → Int) × Nat) => [(0, .dat (vlst (List.map C_api_Instance l1))), (1, .dat (vstr key2)), (5, .ptr 2 0), (9, .dat (vlst (List.map C_api_Instance l1))), (10, .dat (vint (l1.length : Int))), (11, .dat (vint (k5 : Int)))]) (fun (k5 : Nat) (s : (Bs → Int) × Nat) => [(1, .opq none (mapIO Tryz.prog 9 3 s.2 s.1)), (2, .box none 73 [.mp 1])]) ((fun _ => 0), 0) H ⟨rfl, rfl, rfl, rfl, rfl, rfl, trivial⟩ ⟨rfl, rfl, trivial⟩ (fun _ _ => rfl) ?_ ?_
 ·rintro ⟨m3, m4⟩ H
  replace H : upstream_ordered_E1 l1 m3 m4 = some r := H
  unfold upstream_ordered_E1 at H
  refine awp_seq ?_
  refine awp_plain hN rfl ?_
  refine seq_run0 (stp_lss rfl rfl) ?_
  refine awp_seq ?_
  refine awp_cond _ rfl (fun h => (lt_t h).elim) (fun h => ?_)
  refine awp_exit ?_
  refine awp_seq ?_
  refine awp_plain hN rfl ?_
  refine qd rfl ?_
  obtain ⟨r9, h10, H⟩ := bnd H
  refine seq_callG (rn [(900, 3)]) [] [(900, _)] (kr_slices_Clone_L_api_Instance_api_Instance_ l1 r9 h10) ⟨rfl, trivial⟩ ⟨.inl (.inl rfl), trivial⟩ trivial rfl ?_
  refine seq_run0 (stp_assign (.row _ _) rfl) ?_
  refine awp_seq ?_
  refine awp_frzM 2 0 1 rfl rfl rfl ?_
  refine awp_frzB 2 [vmpI Tryz.prog 9 3 (m4, m3).1 (m4, m3).2] rfl rfl ?_
  refine awp_plain hN rfl ?_
  refine seq_run0 (stp_move (.row _ _) rfl) ?_
  refine seq_run0 (stp_mkfn (us := [_]) ⟨rfl, trivial⟩) ?_
  obtain ⟨r11, h12, H⟩ := bnd H
  obtain ⟨h13, H⟩ := gif H
  refine seq_callG (rn [(0, 3)]) [(0, _, _, some _)] [] (kt_slices_SortFunc_L_api_Instance_api_Instance_ r9 (fun (a0 : S_api_Instance) (a1 : S_api_Instance) => m_upstream_ordered_1 a0 a1 (m4, m3)) 58 [vcell [[vmpI Tryz.prog 9 3 (m4, m3).1 (m4, m3).2]] 0 0] (fun a0 a1 r h => k_upstream_ordered_1 a0 a1 (m4, m3) r h) r11 h12) ⟨rfl, trivial⟩ ⟨.inl (.inl rfl), .inl (.inl rfl), trivial⟩ ⟨⟨⟨rfl, rfl, rfl⟩, by simp [stayP, h13]⟩, trivial⟩ rfl ?_
  refine awp_seq ?_
  refine awp_plain hN rfl ?_
  refine seq_run0 (stp_move (.row _ _) rfl) ?_
  refine seq_run0 (stp_assign (.row _ _) rfl) ?_
  refine awp_ret ?_
  cases H
  exact ⟨trivial, t_slotv rfl (h13).symm, trivial⟩
 ·rintro k5 x8 ⟨m3, m4⟩ q6 h14 h15 H hq6
  replace H : upstream_ordered_L1 key2 k5 x8 m3 m4 = some q6 := H
  unfold upstream_ordered_L1 at H
  refine awp_seq ?_
  refine awp_plain hN rfl ?_
  refine seq_run0 (stp_lss rfl rfl) ?_
  refine awp_seq ?_
  refine awp_cond _ rfl (fun h => ?_) (fun h => (lt_f h14 h).elim)
  refine awp_skip ?_
  refine awp_seq ?_
  refine awp_block ?_
  refine awp_seq ?_
  refine awp_plain hN rfl ?_
  refine seq_run0 (t_idx tyE26 (fun _ => rfl) rfl rfl h15) ?_
  refine seq_run0 (stp_loadEA tyS55 rfl (map_at h15) rfl) ?_
  refine seq_run2 (stp_alloc 4 tyZ55 rfl) rfl ?_
  refine seq_run2 (stp_storeW tyS55 rfl rfl rfl rfl) rfl ?_
  refine awp_draw mixed hN rfl rfl ?_
  refine seq_run1 (stp_load1 tyS73 rfl rfl) rfl ?_
  refine seq_run0 (stp_fldP tyF55_0 rfl) ?_
  refine seq_run1 (stp_load1 tyS9 rfl rfl) rfl ?_
  refine qd rfl ?_
  obtain ⟨h16, H⟩ := gif H
  refine seq_run0 (stp_sadd rfl rfl (Nat.le_trans h16 (by decide))) ?_
  refine seq_run0 (stp_fldP tyF55_0 rfl) ?_
  refine seq_run1 (stp_load1 tyS9 rfl rfl) rfl ?_
  obtain ⟨h17, H⟩ := gif H
  refine seq_run0 (stp_sadd rfl rfl (Nat.le_trans h17 (by decide))) ?_
  obtain ⟨r18, h19, H⟩ := bnd H
  refine seq_run0 (stp_call (k_upstream_Hash ((key2 ++ [0]) ++ x8.Key) r18 h19) ⟨.inl rfl, trivial⟩) ?_
  refine seq_run0 (stp_remK rfl rfl (by decide)) ?_
  refine seq_run0 (stp_conv tyU74 tyU3 rfl) ?_
  refine seq_run0 (stp_fldP tyF55_1 rfl) ?_
  refine seq_run1 (stp_load1 tyS3 rfl rfl) rfl ?_
  refine seq_run0 (stp_wrap _ rfl rfl (.inr (.inr ⟨rfl, rfl⟩))) ?_
  obtain ⟨h20, H⟩ := gif H
  refine seq_run2 (stp_putI tyM73 rfl rfl rfl h20.1 h20.2.1 h20.2.2) rfl ?_
  refine ⟨rfl, ?_⟩
  refine awp_plain hN rfl ?_
  refine seq_run0 (stp_add rfl rfl (by omega)) ?_
  refine qd rfl ?_
  exact ⟨_, backl H, ⟨rfl, rfl, rfl, rfl, rfl, rfl, trivial⟩, ⟨rfl, rfl, trivial⟩⟩
theorem k_upstream_Order (l1 : (List S_api_Instance)) (key2 : Bs) (r : ((List Bs) × Int)) (H : m_upstream_Order l1 key2 = some r) : Fn Tryz.prog 9 [vlst (List.map C_api_Instance l1), vstr key2] (resOf [vlst (List.map C_string r.1), vint r.2]) := by
 refine ⟨by kernel_rfl, pure_of (us := [vlst (List.map C_string r.1), vint r.2]) Tryz.func9 rfl rfl rfl rfl fun X hN => ?_⟩
 unfold m_upstream_Order at H
 refine awp_seq ?_
 refine awp_plain hN rfl ?_
 refine qe rfl ?_
 refine qe rfl ?_
 refine awp_seq ?_
 refine awp_seq ?_
 refine awp_plain hN rfl ?_
 refine qd rfl ?_
 obtain ⟨r3, h4, H⟩ := bnd H
 refine seq_run0 (stp_call (k_upstream_CheckInstances l1 r3 h4) ⟨.inl rfl, trivial⟩) ?_
 refine qe rfl ?_
 refine awp_seq ?_
 refine awp_plain hN rfl ?_
 refine qd rfl ?_
 refine seq_run0 (stp_neq rfl rfl) ?_
 refine awp_cond _ rfl (fun h5 => ?_) (fun h5 => ?_)
 ·replace H := ift h5 H
  refine awp_seq ?_
  refine awp_plain hN rfl ?_
  refine qd rfl ?_
  refine qe rfl ?_
  refine qe rfl ?_
  refine awp_ret ?_
  cases H
  exact ⟨trivial, .inr ⟨rfl, rfl⟩, .inl rfl, trivial⟩
 ·replace H := iff_ h5 H
  refine awp_skip ?_
  refine awp_seq ?_
  refine awp_seq ?_
  refine awp_plain hN rfl ?_
  refine qd rfl ?_
  obtain ⟨r6, h7, H⟩ := bnd H
  refine seq_run0 (stp_call (k_upstream_keyFault key2 r6 h7) ⟨.inl rfl, trivial⟩) ?_
  refine qe rfl ?_
  refine awp_seq ?_
  refine awp_plain hN rfl ?_
  refine qd rfl ?_
  refine seq_run0 (stp_neq rfl rfl) ?_
  refine awp_cond _ rfl (fun h8 => ?_) (fun h8 => ?_)
  ·replace H := ift h8 H
   refine awp_seq ?_
   refine awp_plain hN rfl ?_
   refine qd rfl ?_
   refine qe rfl ?_
   refine qe rfl ?_
   refine awp_ret ?_
   cases H
   exact ⟨trivial, .inr ⟨rfl, rfl⟩, .inl rfl, trivial⟩
  ·replace H := iff_ h8 H
   refine awp_skip ?_
   refine awp_seq ?_
   refine awp_plain hN rfl ?_
   refine qe rfl ?_
   refine awp_seq ?_
   refine awp_seq ?_
   refine awp_plain hN rfl ?_
   refine qd rfl ?_
   refine qd rfl ?_
   obtain ⟨r9, h10, H⟩ := bnd H
   refine seq_run0 (stp_call (k_upstream_ordered l1 key2 r9 h10) ⟨.inl rfl, .inl rfl, trivial⟩) ?_
   refine seq_run0 (t_len tyU26 rfl) ?_
   refine qd rfl ?_
   refine awp_block ?_
   refine awp_nilrow 8 1 9 1 rfl rfl rfl ?_
   obtain ⟨h14, H⟩ := gif H
   refine awp_forL (fun (k12 : Nat) (s : (List Bs)) => [(8, .row 1 s.length), (23, .dat (vlst (List.map C_api_Instance r9))), (24, .dat (vint (r9.length : Int))), (25, .dat (vint (k12 : Int)))]) (fun (k12 : Nat) (s : (List Bs)) => [(1, .row 9 1 (List.map C_string s))]) [] H ⟨rfl, rfl, rfl, rfl, trivial⟩ ⟨rfl, trivial⟩ (fun _ _ => rfl) ?_ ?_
   ·rintro l11 H
    replace H : upstream_Order_E1 l11 = some r := H
    unfold upstream_Order_E1 at H
    refine awp_seq ?_
    refine awp_plain hN rfl ?_
    refine seq_run0 (stp_lss rfl rfl) ?_
    refine awp_seq ?_
    refine awp_cond _ rfl (fun h => (lt_t h).elim) (fun h => ?_)
    refine awp_exit ?_
    refine awp_seq ?_
    refine awp_plain hN rfl ?_
    refine seq_run0 (stp_move (.row _ _) rfl) ?_
    refine seq_run0 (stp_assign (.row _ _) rfl) ?_
    refine qe rfl ?_
    refine awp_ret ?_
    cases H
    exact ⟨trivial, t_slotv rfl rfl, .inl rfl, trivial⟩
   ·rintro k12 x15 l11 q13 h16 h17 H hq13
    replace H : upstream_Order_L1 k12 x15 l11 = some q13 := H
    unfold upstream_Order_L1 at H
    refine awp_seq ?_
    refine awp_plain hN rfl ?_
    refine seq_run0 (stp_lss rfl rfl) ?_
    refine awp_seq ?_
    refine awp_cond _ rfl (fun h => ?_) (fun h => (lt_f h16 h).elim)
    refine awp_skip ?_
    refine awp_seq ?_
    refine awp_block ?_
    refine awp_seq ?_
    refine awp_plain hN rfl ?_
    refine seq_run0 (t_idx tyE26 (fun _ => rfl) rfl rfl h17) ?_
    refine seq_run0 (stp_loadEA tyS55 rfl (map_at h17) rfl) ?_
    refine seq_run2 (stp_alloc 2 tyZ55 rfl) rfl ?_
    refine seq_run2 (stp_storeW tyS55 rfl rfl rfl rfl) rfl ?_
    refine awp_plain hN rfl ?_
    refine seq_run0 (stp_move (.row _ _) rfl) ?_
    refine seq_run0 (stp_fldP tyF55_0 rfl) ?_
    refine seq_run1 (stp_load1 tyS9 rfl rfl) rfl ?_
    refine seq_run0 (stp_dat (u' := vlst (List.map C_string [x15.Key])) (stp_lit [[_]] tyL32 ⟨rfl, .inl ⟨_, rfl, rfl, rfl⟩, rfl, trivial⟩ rfl rfl) rfl) ?_
    obtain ⟨h18, H⟩ := gif H
    refine seq_run2 (t_app tyL32 (fun _ => rfl) rfl rfl rfl ⟨by simp, by first | (simp; done) | simpa using h18⟩ rfl) rfl ?_
    refine seq_run0 (stp_assign (.row _ _) rfl) ?_
    refine awp_plain hN rfl ?_
    refine seq_run0 (stp_add rfl rfl (by omega)) ?_
    refine qd rfl ?_
    exact ⟨_, backl H, ⟨rfl, rfl, rfl, rfl, trivial⟩, ⟨rfl, trivial⟩⟩
theorem k_slices_BinarySearchFunc_L_api_Instance_api_Instance_string_ (x1 : (List S_api_Instance)) (target2 : Bs) (p2 : S_api_Instance → Bs → Option (Int)) (fv2 : Nat) (us2 : List V) (hp2 : ∀ a0 a1 r, p2 a0 a1 = some r → Fn Tryz.prog fv2 ([vagg (C_api_Instance a0), vstr a1] ++ us2) (resOf [vint r])) (r : (Int × Bool)) (H : m_slices_BinarySearchFunc_L_api_Instance_api_Instance_string_ x1 target2 p2 = some r) : Fn Tryz.prog 62 [vlst (List.map C_api_Instance x1), vstr target2, vfn fv2 us2] (resOf [vint r.1, vbool r.2]) := by
 refine ⟨by kernel_rfl, pure_of (us := [vint r.1, vbool r.2]) Tryz.func62 rfl rfl rfl rfl fun X hN => ?_⟩
 unfold m_slices_BinarySearchFunc_L_api_Instance_api_Instance_string_ at H
 refine awp_seq ?_
 refine awp_plain hN rfl ?_
 refine qe rfl ?_
 refine qe rfl ?_
 refine awp_seq ?_
 refine awp_plain hN rfl ?_
 refine qd rfl ?_
 refine seq_run0 (t_len tyU26 rfl) ?_
 refine qe rfl ?_
 refine awp_seq ?_
 refine awp_plain hN rfl ?_
 refine qd rfl ?_
 refine qe rfl ?_
 refine qe rfl ?_
 refine awp_joinE (ι := Int) (fun i => [(0, .dat (vlst (List.map C_api_Instance x1))), (1, .dat (vstr target2)), (2, .dat (vfn fv2 us2)), (8, .dat (vint (x1.length : Int))), (9, .dat (vint i))]) (fun i => []) (fun i => slices_BinarySearchFunc_L_api_Instance_api_Instance_string__J1 x1 target2 p2 i = some r) (fun i => rfl) ?_ ?_
 ·skip
  refine awp_block ?_
  refine awp_iter (fun (s : Int × Int) => [(0, .dat (vlst (List.map C_api_Instance x1))), (1, .dat (vstr target2)), (2, .dat (vfn fv2 us2)), (8, .dat (vint (x1.length : Int))), (9, .dat (vint s.1)), (10, .dat (vint s.2))]) (fun (s : Int × Int) => []) (0, (x1.length : Int)) H ⟨rfl, rfl, rfl, rfl, rfl, rfl, trivial⟩ trivial (fun _ => rfl) ?_
  rintro ⟨i3, j4⟩ q5 H hq5
  replace H : slices_BinarySearchFunc_L_api_Instance_api_Instance_string__L2 x1 target2 p2 i3 j4 = some q5 := H
  unfold slices_BinarySearchFunc_L_api_Instance_api_Instance_string__L2 at H
  refine awp_seq ?_
  refine awp_seq ?_
  refine awp_plain hN rfl ?_
  refine qd rfl ?_
  refine qd rfl ?_
  refine seq_run0 (stp_lss rfl rfl) ?_
  refine awp_cond _ rfl (fun h6 => ?_) (fun h6 => ?_)
  ·replace H := ift h6 H
   refine awp_skip ?_
   refine awp_block ?_
   refine awp_seq ?_
   refine awp_plain hN rfl ?_
   refine qd rfl ?_
   refine qd rfl ?_
   refine seq_run0 (stp_wrap _ rfl rfl (.inl ⟨rfl, rfl⟩)) ?_
   refine seq_run0 (stp_conv tyU3 tyU76 rfl) ?_
   refine seq_run0 (stp_dat (stp_shr rfl rfl (by decide)) rfl) ?_
   refine seq_run0 (stp_conv tyU76 tyU3 rfl) ?_
   refine qe rfl ?_
   refine awp_seq ?_
   refine awp_plain hN rfl ?_
   refine qd rfl ?_
   refine qd rfl ?_
   refine qd rfl ?_
   obtain ⟨x7, h8, H⟩ := bnd H
   refine seq_run0 (t_idxI tyE26 (fun _ => rfl) rfl rfl h8) ?_
   refine seq_run0 (stp_loadEA tyS55 rfl (map_at (at_some h8).2) rfl) ?_
   refine qd rfl ?_
   obtain ⟨r9, h10, H⟩ := bnd H
   refine seq_run0 (stp_callv (hp2 x7 target2 r9 h10) rfl ⟨.inl rfl, .inl rfl, trivial⟩) ?_
   refine seq_run0 (stp_lss rfl rfl) ?_
   refine awp_cond _ rfl (fun h11 => ?_) (fun h11 => ?_)
   ·replace H := ift h11 H
    refine awp_plain hN rfl ?_
    refine qd rfl ?_
    refine seq_run0 (stp_wrap _ rfl rfl (.inl ⟨rfl, rfl⟩)) ?_
    refine qe rfl ?_
    exact ⟨_, backl H, ⟨rfl, rfl, rfl, rfl, rfl, rfl, trivial⟩, trivial⟩
   ·replace H := iff_ h11 H
    refine awp_plain hN rfl ?_
    refine qd rfl ?_
    refine qe rfl ?_
    exact ⟨_, backl H, ⟨rfl, rfl, rfl, rfl, rfl, rfl, trivial⟩, trivial⟩
  ·replace H := iff_ h6 H
   refine awp_exit ?_
   replace H := outl H hq5
   exact ⟨i3, H, ⟨rfl, rfl, rfl, rfl, rfl, trivial⟩, trivial⟩
 ·rintro i12 H
  replace H : slices_BinarySearchFunc_L_api_Instance_api_Instance_string__J1 x1 target2 p2 i12 = some r := H
  unfold slices_BinarySearchFunc_L_api_Instance_api_Instance_string__J1 at H
  refine awp_joinE (ι := Bool) (fun i => [(6, .dat (vint i12)), (7, .dat (vbool i))]) (fun i => []) (fun i => slices_BinarySearchFunc_L_api_Instance_api_Instance_string__J3 i12 i = some r) (fun i => rfl) ?_ ?_
  ·skip
   refine awp_plain hN rfl ?_
   refine qd rfl ?_
   refine qd rfl ?_
   refine qd rfl ?_
   refine seq_run0 (stp_lss rfl rfl) ?_
   refine qd rfl ?_
   refine seq_split (j := 4) rfl rfl (fun h13 => ?_) (fun h13 => ?_) rfl
   ·have h14 := un1 h13
    replace H := ift h14 H
    refine seq_g0 rfl rfl h13 (stp_move (.dat _) rfl) ?_
    refine seq_g0 rfl rfl h13 (stp_move (.dat _) rfl) ?_
    refine seq_g0 rfl rfl h13 (stp_move (.dat _) rfl) ?_
    obtain ⟨x15, h16, H⟩ := bnd H
    refine seq_g0 rfl rfl h13 (t_idxI tyE26 (fun _ => rfl) rfl rfl h16) ?_
    refine seq_g0 rfl rfl h13 (stp_loadEA tyS55 rfl (map_at (at_some h16).2) rfl) ?_
    refine seq_g0 rfl rfl h13 (stp_move (.dat _) rfl) ?_
    obtain ⟨r17, h18, H⟩ := bnd H
    refine seq_g0 rfl rfl h13 (stp_callv (hp2 x15 target2 r17 h18) rfl ⟨.inl rfl, .inl rfl, trivial⟩) ?_
    refine seq_g0 rfl rfl h13 (stp_eql rfl rfl) ?_
    refine seq_run0 (stp_pick_t rfl (bTT h14) rfl) ?_
    refine qe rfl ?_
    refine qe rfl ?_
    exact ⟨decide (r17 = 0), H, ⟨rfl, rfl, trivial⟩, trivial⟩
   ·have h19 := un2 h13
    replace H := iff_ h19 H
    refine seq_skip rfl rfl h13 ?_
    refine seq_skip rfl rfl h13 ?_
    refine seq_skip rfl rfl h13 ?_
    refine seq_skip rfl rfl h13 ?_
    refine seq_skip rfl rfl h13 ?_
    refine seq_skip rfl rfl h13 ?_
    refine seq_skip rfl rfl h13 ?_
    refine seq_skip rfl rfl h13 ?_
    refine seq_run0 (stp_pick_f rfl (bFF h19) rfl) ?_
    refine qe rfl ?_
    refine qe rfl ?_
    exact ⟨false, H, ⟨rfl, rfl, trivial⟩, trivial⟩
  ·rintro v20 H
   replace H : slices_BinarySearchFunc_L_api_Instance_api_Instance_string__J3 i12 v20 = some r := H
   unfold slices_BinarySearchFunc_L_api_Instance_api_Instance_string__J3 at H
   refine awp_ret ?_
   cases H
   exact ⟨trivial, .inl rfl, .inl rfl, trivial⟩
theorem k_upstream_place_1 (x1 : S_api_Instance) (k2 : Bs) (r : (Int)) (H : m_upstream_place_1 x1 k2 = some r) : Fn Tryz.prog 63 [vagg (C_api_Instance x1), vstr k2] (resOf [vint r]) := by
 refine ⟨by kernel_rfl, pure_of (us := [vint r]) Tryz.func63 rfl rfl rfl rfl fun X hN => ?_⟩
 unfold m_upstream_place_1 at H
 refine awp_seq ?_
 refine awp_plain hN rfl ?_
 refine seq_run2 (stp_boxA 1 rfl) rfl ?_
 refine qe rfl ?_
 refine awp_seq ?_
 refine awp_plain hN rfl ?_
 refine seq_run0 (stp_fldP tyF55_0 rfl) ?_
 refine seq_run1 (stp_load1 tyS9 rfl rfl) rfl ?_
 refine qd rfl ?_
 obtain ⟨r3, h4, H⟩ := bnd H
 refine seq_run0 (stp_call (k_strings_Compare x1.Key k2 r3 h4) ⟨.inl rfl, .inl rfl, trivial⟩) ?_
 refine qe rfl ?_
 refine awp_ret ?_
 cases H
 exact ⟨trivial, .inl rfl, trivial⟩
theorem k_upstream_place (l1 : (List S_api_Instance)) (key2 : Bs) (r : (Int × Bool)) (H : m_upstream_place l1 key2 = some r) : Fn Tryz.prog 37 [vlst (List.map C_api_Instance l1), vstr key2] (resOf [vint r.1, vbool r.2]) := by
 refine ⟨by kernel_rfl, pure_of (us := [vint r.1, vbool r.2]) Tryz.func37 rfl rfl rfl rfl fun X hN => ?_⟩
 unfold m_upstream_place at H
 refine awp_seq ?_
 refine awp_plain hN rfl ?_
 refine qe rfl ?_
 refine qe rfl ?_
 refine awp_seq ?_
 refine awp_plain hN rfl ?_
 refine qd rfl ?_
 refine qd rfl ?_
 obtain ⟨r3, h4, H⟩ := bnd H
 refine seq_run0 (stp_callW (k_slices_BinarySearchFunc_L_api_Instance_api_Instance_string_ l1 key2 (fun (a0 : S_api_Instance) (a1 : Bs) => m_upstream_place_1 a0 a1) 63 [] (fun a0 a1 r h => k_upstream_place_1 a0 a1 r h) r3 h4) ⟨.inl (.inl rfl), .inl (.inl rfl), .inr ⟨_, rfl, rfl⟩, trivial⟩) ?_
 refine seq_run0 (stp_ext rfl rfl) ?_
 refine seq_run0 (stp_ext rfl rfl) ?_
 refine qe rfl ?_
 refine qe rfl ?_
 refine awp_ret ?_
 cases H
 exact ⟨trivial, .inl rfl, .inl rfl, trivial⟩
theorem k_upstream_loadsOf (v1 : (List S_api_Instance)) (v2 : (List S_api_Load)) (r : ((List Int) × Int)) (H : m_upstream_loadsOf v1 v2 = some r) : Fn Tryz.prog 34 [vlst (List.map C_api_Instance v1), vlst (List.map C_api_Load v2)] (resOf [vlst (List.map C_int r.1), vint r.2]) := by
 refine ⟨by kernel_rfl, pure_of (us := [vlst (List.map C_int r.1), vint r.2]) Tryz.func34 rfl rfl rfl rfl fun X hN => ?_⟩
 unfold m_upstream_loadsOf at H
 refine awp_seq ?_
 refine awp_plain hN rfl ?_
 refine qe rfl ?_
 refine qe rfl ?_
 refine awp_seq ?_
 refine awp_seq ?_
 refine awp_plain hN rfl ?_
 refine qd rfl ?_
 obtain ⟨r3, h4, H⟩ := bnd H
 refine seq_run0 (stp_call (k_upstream_CheckInstances v1 r3 h4) ⟨.inl rfl, trivial⟩) ?_
 refine qe rfl ?_
 refine awp_seq ?_
 refine awp_plain hN rfl ?_
 refine qd rfl ?_
 refine seq_run0 (stp_neq rfl rfl) ?_
 refine awp_cond _ rfl (fun h5 => ?_) (fun h5 => ?_)
 ·replace H := ift h5 H
  refine awp_seq ?_
  refine awp_plain hN rfl ?_
  refine qd rfl ?_
  refine qe rfl ?_
  refine qe rfl ?_
  refine awp_ret ?_
  cases H
  exact ⟨trivial, .inr ⟨rfl, rfl⟩, .inl rfl, trivial⟩
 ·replace H := iff_ h5 H
  refine awp_skip ?_
  refine awp_seq ?_
  refine awp_seq ?_
  refine awp_plain hN rfl ?_
  refine qd rfl ?_
  refine seq_run0 (t_len tyU30 rfl) ?_
  refine seq_run0 (stp_gtr rfl rfl) ?_
  refine awp_cond _ rfl (fun h6 => ?_) (fun h6 => ?_)
  ·replace H := ift h6 H
   refine awp_seq ?_
   refine awp_plain hN rfl ?_
   refine qe rfl ?_
   refine qe rfl ?_
   refine awp_ret ?_
   cases H
   exact ⟨trivial, .inr ⟨rfl, rfl⟩, .inl rfl, trivial⟩
  ·replace H := iff_ h6 H
   refine awp_skip ?_
   refine awp_seq ?_
   refine awp_plain hN rfl ?_
   refine qd rfl ?_
   refine seq_run0 (t_len tyU26 rfl) ?_
   obtain ⟨h7, H⟩ := gif H
   refine seq_run2 (t_make (C := C_int) 1 0 tyL22 tyZ3 rfl rfl rfl rfl h7 rfl) rfl ?_
   refine seq_run0 (stp_assign (.row _ _) rfl) ?_
   refine awp_seq ?_
   refine awp_seq ?_
   refine awp_plain hN rfl ?_
   refine qd rfl ?_
   refine seq_run0 (t_len tyU30 rfl) ?_
   refine qd rfl ?_
   refine awp_block ?_
   obtain ⟨h11, H⟩ := gif H
   refine awp_forL (fun (k9 : Nat) (s : (List Int)) => [(0, .dat (vlst (List.map C_api_Instance v1))), (1, .dat (vlst (List.map C_api_Load v2))), (7, .row 1 s.length), (23, .dat (vlst (List.map C_api_Load v2))), (24, .dat (vint (v2.length : Int))), (25, .dat (vint (k9 : Int)))]) (fun (k9 : Nat) (s : (List Int)) => [(1, .row 3 1 (List.map C_int s))]) (List.replicate v1.length 0) H ⟨rfl, rfl, congrArg (Slot.row 1) (by simp), rfl, rfl, rfl, trivial⟩ ⟨rfl, trivial⟩ (fun _ _ => rfl) ?_ ?_
   ·rintro l8 H
    replace H : upstream_loadsOf_E1 l8 = some r := H
    unfold upstream_loadsOf_E1 at H
    refine awp_seq ?_
    refine awp_plain hN rfl ?_
    refine seq_run0 (stp_lss rfl rfl) ?_
    refine awp_seq ?_
    refine awp_cond _ rfl (fun h => (lt_t h).elim) (fun h => ?_)
    refine awp_exit ?_
    refine awp_seq ?_
    refine awp_plain hN rfl ?_
    refine seq_run0 (stp_move (.row _ _) rfl) ?_
    refine seq_run0 (stp_assign (.row _ _) rfl) ?_
    refine qe rfl ?_
    refine awp_ret ?_
    cases H
    exact ⟨trivial, t_slotv rfl rfl, .inl rfl, trivial⟩
   ·rintro k9 x12 l8 q10 h13 h14 H hq10
    replace H : upstream_loadsOf_L1 v1 v2 k9 x12 l8 = some q10 := H
    unfold upstream_loadsOf_L1 at H
    refine awp_seq ?_
    refine awp_plain hN rfl ?_
    refine seq_run0 (stp_lss rfl rfl) ?_
    refine awp_seq ?_
    refine awp_cond _ rfl (fun h => ?_) (fun h => (lt_f h13 h).elim)
    refine awp_skip ?_
    refine awp_seq ?_
    refine awp_block ?_
    refine awp_seq ?_
    refine awp_plain hN rfl ?_
    refine qd rfl ?_
    refine seq_run0 (t_idx tyE30 (fun _ => rfl) rfl rfl h14) ?_
    refine seq_run0 (stp_loadEA tyS61 rfl (map_at h14) rfl) ?_
    refine seq_run2 (stp_alloc 2 tyZ61 rfl) rfl ?_
    refine qe rfl ?_
    refine seq_run2 (stp_storeW tyS61 rfl rfl rfl rfl) rfl ?_
    refine awp_seq ?_
    refine awp_plain hN rfl ?_
    refine qd rfl ?_
    refine seq_run0 (stp_fldP tyF61_0 rfl) ?_
    refine seq_run1 (stp_load1 tyS9 rfl rfl) rfl ?_
    obtain ⟨r15, h16, H⟩ := bnd H
    refine seq_run0 (stp_call (k_upstream_place v1 x12.Instance r15 h16) ⟨.inl rfl, .inl rfl, trivial⟩) ?_
    refine qd rfl ?_
    refine seq_run0 (stp_ext rfl rfl) ?_
    refine seq_run0 (stp_ext rfl rfl) ?_
    refine qe rfl ?_
    refine qe rfl ?_
    refine awp_seq ?_
    refine awp_block ?_
    refine awp_seq ?_
    refine awp_plain hN rfl ?_
    refine qd rfl ?_
    refine seq_run0 (stp_not rfl) ?_
    refine qe rfl ?_
    refine awp_cond _ rfl (fun h17 => ?_) (fun h17 => ?_)
    ·replace H := ift h17 H
     refine awp_seq ?_
     refine awp_plain hN rfl ?_
     refine qe rfl ?_
     refine qe rfl ?_
     refine awp_ret ?_
     replace H := retl H hq10
     cases H
     exact ⟨trivial, .inr ⟨rfl, rfl⟩, .inl rfl, trivial⟩
    ·replace H := iff_ h17 H
     refine awp_joinE (ι := Bool) (fun i => [(0, .dat (vlst (List.map C_api_Instance v1))), (1, .dat (vlst (List.map C_api_Load v2))), (7, .row 1 l8.length), (9, .ptr 2 0), (10, .dat (vint r15.1)), (23, .dat (vlst (List.map C_api_Load v2))), (24, .dat (vint (v2.length : Int))), (25, .dat (vint (k9 : Int))), (40, .dat (vbool i))]) (fun i => [(1, .row 3 1 (List.map C_int l8)), (2, .box none 61 [.dat (vstr x12.Instance), .dat (vint x12.Many)])]) (fun i => upstream_loadsOf_J2 l8 x12 r15 i = some q10) (fun i => rfl) ?_ ?_
     ·skip
      refine awp_draw mixed hN rfl rfl ?_
      refine qd rfl ?_
      refine seq_run0 (stp_gtr rfl rfl) ?_
      refine qd rfl ?_
      refine seq_split (j := 2) rfl rfl (fun h18 => ?_) (fun h18 => ?_) rfl
      ·have h19 := un1 h18
       replace H := ift h19 H
       refine seq_g0 rfl rfl h18 (stp_fldP tyF61_0 rfl) ?_
       refine seq_g1 rfl rfl h18 (stp_load1 tyS9 rfl rfl) rfl ?_
       refine seq_g0 rfl rfl h18 (stp_move (.dat _) rfl) ?_
       refine seq_g0 rfl rfl h18 (stp_move (.dat _) rfl) ?_
       refine seq_g0 rfl rfl h18 (stp_sub rfl rfl (by omega)) ?_
       obtain ⟨x20, h21, H⟩ := bnd H
       refine seq_g0 rfl rfl h18 (t_idxI tyE30 (fun _ => rfl) rfl rfl h21) ?_
       refine seq_g0 rfl rfl h18 (stp_fldE tyF61_0 rfl) ?_
       refine seq_g0 rfl rfl h18 (stp_loadE1 tyS9 rfl (map_at (at_some h21).2) rfl) ?_
       refine seq_g0 rfl rfl h18 (stp_sleq rfl rfl) ?_
       refine seq_run0 (stp_pick_t rfl (bTT h19) rfl) ?_
       refine qe rfl ?_
       refine ⟨rfl, ?_⟩
       exact ⟨(Op.bytesLess x12.Instance x20.Instance || x12.Instance == x20.Instance), H, ⟨rfl, rfl, rfl, rfl, rfl, rfl, rfl, rfl, rfl, trivial⟩, ⟨rfl, rfl, trivial⟩⟩
      ·have h22 := un2 h18
       replace H := iff_ h22 H
       refine seq_skip rfl rfl h18 ?_
       refine seq_skip rfl rfl h18 ?_
       refine seq_skip rfl rfl h18 ?_
       refine seq_skip rfl rfl h18 ?_
       refine seq_skip rfl rfl h18 ?_
       refine seq_skip rfl rfl h18 ?_
       refine seq_skip rfl rfl h18 ?_
       refine seq_skip rfl rfl h18 ?_
       refine seq_skip rfl rfl h18 ?_
       refine seq_run0 (stp_pick_f rfl (bFF h22) rfl) ?_
       refine qe rfl ?_
       refine ⟨rfl, ?_⟩
       exact ⟨false, H, ⟨rfl, rfl, rfl, rfl, rfl, rfl, rfl, rfl, rfl, trivial⟩, ⟨rfl, rfl, trivial⟩⟩
     ·rintro v23 H
      replace H : upstream_loadsOf_J2 l8 x12 r15 v23 = some q10 := H
      unfold upstream_loadsOf_J2 at H
      refine awp_cond _ rfl (fun h24 => ?_) (fun h24 => ?_)
      ·replace H := ift h24 H
       refine awp_seq ?_
       refine awp_plain hN rfl ?_
       refine qe rfl ?_
       refine qe rfl ?_
       refine awp_ret ?_
       replace H := retl H hq10
       cases H
       exact ⟨trivial, .inr ⟨rfl, rfl⟩, .inl rfl, trivial⟩
      ·replace H := iff_ h24 H
       refine awp_seq ?_
       refine awp_plain hN rfl ?_
       refine seq_run0 (stp_fldP tyF61_1 rfl) ?_
       refine seq_run1 (stp_load1 tyS3 rfl rfl) rfl ?_
       obtain ⟨r25, h26, H⟩ := bnd H
       refine seq_run0 (stp_call (k_kit_Outside x12.Many 0 1000000 r25 h26) ⟨.inl rfl, .inl rfl, .inl rfl, trivial⟩) ?_
       refine qe rfl ?_
       refine awp_cond _ rfl (fun h27 => ?_) (fun h27 => ?_)
       ·replace H := ift h27 H
        refine awp_seq ?_
        refine awp_plain hN rfl ?_
        refine qe rfl ?_
        refine qe rfl ?_
        refine awp_ret ?_
        replace H := retl H hq10
        cases H
        exact ⟨trivial, .inr ⟨rfl, rfl⟩, .inl rfl, trivial⟩
       ·replace H := iff_ h27 H
        refine awp_skip ?_
        refine awp_plain hN rfl ?_
        refine seq_run0 (stp_move (.row _ _) rfl) ?_
        refine qd rfl ?_
        refine seq_run0 (stp_fldP tyF61_1 rfl) ?_
        refine seq_run1 (stp_load1 tyS3 rfl rfl) rfl ?_
        obtain ⟨x28, h29, H⟩ := bnd H
        refine seq_run1 (t_idxRI tyE22 rfl rfl rfl h29) rfl ?_
        refine seq_run2 (t_storeR x12.Many tyS3 rfl rfl rfl rfl (at_some h29).2 rfl rfl) rfl ?_
        refine awp_plain hN rfl ?_
        refine seq_run0 (stp_add rfl rfl (by omega)) ?_
        refine qd rfl ?_
        exact ⟨_, backl H, ⟨rfl, rfl, congrArg (Slot.row 1) (by simp), rfl, rfl, rfl, trivial⟩, ⟨rfl, trivial⟩⟩
theorem k_upstream_least (l1 : (List S_api_Instance)) (loads2 : (List Int)) (p2 : Int → Option (Bool)) (fv2 : Nat) (us2 : List V) (hp2 : ∀ a0 r, p2 a0 = some r → Fn Tryz.prog fv2 ([vint a0] ++ us2) (resOf [vbool r])) (r : (Int)) (H : m_upstream_least l1 loads2 p2 = some r) : Fn Tryz.prog 35 [vlst (List.map C_api_Instance l1), vlst (List.map C_int loads2), vfn fv2 us2] (resOf [vint r]) := by
 refine ⟨by kernel_rfl, pure_of (us := [vint r]) Tryz.func35 rfl rfl rfl rfl fun X hN => ?_⟩
 unfold m_upstream_least at H
 refine awp_seq ?_
 refine awp_plain hN rfl ?_
 refine qe rfl ?_
 refine awp_seq ?_
 refine awp_plain hN rfl ?_
 refine qe rfl ?_
 refine awp_seq ?_
 refine awp_seq ?_
 refine awp_plain hN rfl ?_
 refine qd rfl ?_
 refine seq_run0 (t_len tyU26 rfl) ?_
 refine qd rfl ?_
 refine awp_block ?_
 obtain ⟨h6, H⟩ := gif H
 refine awp_forL (fun (k4 : Nat) (s : Int) => [(0, .dat (vlst (List.map C_api_Instance l1))), (1, .dat (vlst (List.map C_int loads2))), (2, .dat (vfn fv2 us2)), (7, .dat (vint s)), (10, .dat (vlst (List.map C_api_Instance l1))), (11, .dat (vint (l1.length : Int))), (12, .dat (vint (k4 : Int)))]) (fun (k4 : Nat) (s : Int) => []) (-1) H ⟨rfl, rfl, rfl, rfl, rfl, rfl, rfl, trivial⟩ trivial (fun _ _ => rfl) ?_ ?_
 ·rintro best3 H
  replace H : upstream_least_E1 best3 = some r := H
  unfold upstream_least_E1 at H
  refine awp_seq ?_
  refine awp_plain hN rfl ?_
  refine seq_run0 (stp_lss rfl rfl) ?_
  refine awp_seq ?_
  refine awp_cond _ rfl (fun h => (lt_t h).elim) (fun h => ?_)
  refine awp_exit ?_
  refine awp_seq ?_
  refine awp_plain hN rfl ?_
  refine qd rfl ?_
  refine qe rfl ?_
  refine awp_ret ?_
  cases H
  exact ⟨trivial, .inl rfl, trivial⟩
 ·rintro k4 x7 best3 q5 h8 h9 H hq5
  replace H : upstream_least_L1 l1 loads2 p2 k4 x7 best3 = some q5 := H
  unfold upstream_least_L1 at H
  refine awp_seq ?_
  refine awp_plain hN rfl ?_
  refine seq_run0 (stp_lss rfl rfl) ?_
  refine awp_seq ?_
  refine awp_cond _ rfl (fun h => ?_) (fun h => (lt_f h8 h).elim)
  refine awp_skip ?_
  refine awp_joinE (ι := Int) (fun i => [(0, .dat (vlst (List.map C_api_Instance l1))), (1, .dat (vlst (List.map C_int loads2))), (2, .dat (vfn fv2 us2)), (7, .dat (vint i)), (10, .dat (vlst (List.map C_api_Instance l1))), (11, .dat (vint (l1.length : Int))), (12, .dat (vint (k4 : Int)))]) (fun i => []) (fun i => upstream_least_J2 i = some q5) (fun i => rfl) ?_ ?_
  ·skip
   refine awp_block ?_
   refine awp_seq ?_
   refine awp_plain hN rfl ?_
   refine qd rfl ?_
   refine seq_run0 (t_idx tyE26 (fun _ => rfl) rfl rfl h9) ?_
   refine seq_run0 (stp_loadEA tyS55 rfl (map_at h9) rfl) ?_
   refine seq_run2 (stp_alloc 1 tyZ55 rfl) rfl ?_
   refine qe rfl ?_
   refine seq_run2 (stp_storeW tyS55 rfl rfl rfl rfl) rfl ?_
   refine awp_joinE (ι := Bool) (fun i => [(0, .dat (vlst (List.map C_api_Instance l1))), (1, .dat (vlst (List.map C_int loads2))), (2, .dat (vfn fv2 us2)), (7, .dat (vint best3)), (8, .dat (vint (k4 : Int))), (10, .dat (vlst (List.map C_api_Instance l1))), (11, .dat (vint (l1.length : Int))), (12, .dat (vint (k4 : Int))), (45, .dat (vbool i))]) (fun i => []) (fun i => upstream_least_J3 best3 k4 i = some q5) (fun i => rfl) ?_ ?_
   ·skip
    refine awp_draw mixed hN rfl rfl ?_
    refine qd rfl ?_
    refine qd rfl ?_
    obtain ⟨r10, h11, H⟩ := bnd H
    refine seq_run0 (stp_callv (hp2 (k4 : Int) r10 h11) rfl ⟨.inl rfl, trivial⟩) ?_
    refine qd rfl ?_
    refine seq_split (j := 3) rfl rfl (fun h12 => ?_) (fun h12 => ?_) rfl
    ·have h13 := un1 h12
     replace H := ift h13 H
     refine seq_g0 rfl rfl h12 (stp_move (.dat _) rfl) ?_
     refine seq_g0 rfl rfl h12 (stp_lss rfl rfl) ?_
     refine seq_g0 rfl rfl h12 (stp_move (.dat _) rfl) ?_
     refine seq_split (j := 6) rfl rfl (fun h14 => ?_) (fun h14 => ?_) rfl
     ·have h15 := un3 h14
      replace H := iff_ h15 H
      refine seq_g0 rfl rfl h14 (stp_move (.dat _) rfl) ?_
      refine seq_g0 rfl rfl h14 (stp_move (.dat _) rfl) ?_
      obtain ⟨x16, h17, H⟩ := bnd H
      refine seq_g0 rfl rfl h14 (t_idx tyE22 (fun _ => rfl) rfl rfl h17) ?_
      refine seq_g0 rfl rfl h14 (stp_loadE1 tyS3 rfl (map_at h17) rfl) ?_
      refine seq_g0 rfl rfl h14 (stp_wrap _ rfl rfl (.inl ⟨rfl, rfl⟩)) ?_
      refine seq_g0 rfl rfl h14 (stp_move (.dat _) rfl) ?_
      refine seq_g0 rfl rfl h14 (stp_move (.dat _) rfl) ?_
      obtain ⟨x18, h19, H⟩ := bnd H
      refine seq_g0 rfl rfl h14 (t_idxI tyE26 (fun _ => rfl) rfl rfl h19) ?_
      refine seq_g0 rfl rfl h14 (stp_fldE tyF55_1 rfl) ?_
      refine seq_g0 rfl rfl h14 (stp_loadE1 tyS3 rfl (map_at (at_some h19).2) rfl) ?_
      refine seq_g0 rfl rfl h14 (stp_wrap _ rfl rfl (.inr (.inr ⟨rfl, rfl⟩))) ?_
      refine seq_g0 rfl rfl h14 (stp_move (.dat _) rfl) ?_
      refine seq_g0 rfl rfl h14 (stp_move (.dat _) rfl) ?_
      obtain ⟨x20, h21, H⟩ := bnd H
      refine seq_g0 rfl rfl h14 (t_idxI tyE22 (fun _ => rfl) rfl rfl h21) ?_
      refine seq_g0 rfl rfl h14 (stp_loadE1 tyS3 rfl (map_at (at_some h21).2) rfl) ?_
      refine seq_g0 rfl rfl h14 (stp_wrap _ rfl rfl (.inl ⟨rfl, rfl⟩)) ?_
      refine seq_g0 rfl rfl h14 (stp_fldP tyF55_1 rfl) ?_
      refine seq_g1 rfl rfl h14 (stp_load1 tyS3 rfl rfl) rfl ?_
      refine seq_g0 rfl rfl h14 (stp_wrap _ rfl rfl (.inr (.inr ⟨rfl, rfl⟩))) ?_
      refine seq_g0 rfl rfl h14 (stp_lss rfl rfl) ?_
      refine seq_g0 rfl rfl h12 (stp_pick_f rfl (bFF h15) rfl) ?_
      refine seq_run0 (stp_pick_t rfl (bTT h13) rfl) ?_
      refine ⟨rfl, ?_⟩
      exact ⟨decide ((wr ((wr (x16 + 1)) * x18.Weight)) < (wr ((wr (x20 + 1)) * x7.Weight))), H, ⟨rfl, rfl, rfl, rfl, rfl, rfl, rfl, rfl, rfl, trivial⟩, trivial⟩
     ·have h22 := un4 h14
      replace H := ift h22 H
      refine seq_skip rfl rfl h14 ?_
      refine seq_skip rfl rfl h14 ?_
      refine seq_skip rfl rfl h14 ?_
      refine seq_skip rfl rfl h14 ?_
      refine seq_skip rfl rfl h14 ?_
      refine seq_skip rfl rfl h14 ?_
      refine seq_skip rfl rfl h14 ?_
      refine seq_skip rfl rfl h14 ?_
      refine seq_skip rfl rfl h14 ?_
      refine seq_skip rfl rfl h14 ?_
      refine seq_skip rfl rfl h14 ?_
      refine seq_skip rfl rfl h14 ?_
      refine seq_skip rfl rfl h14 ?_
      refine seq_skip rfl rfl h14 ?_
      refine seq_skip rfl rfl h14 ?_
      refine seq_skip rfl rfl h14 ?_
      refine seq_skip rfl rfl h14 ?_
      refine seq_skip rfl rfl h14 ?_
      refine seq_skip rfl rfl h14 ?_
      refine seq_skip rfl rfl h14 ?_
      refine seq_g0 rfl rfl h12 (stp_pick_t rfl (bTT h22) rfl) ?_
      refine seq_run0 (stp_pick_t rfl (bTT h13) rfl) ?_
      refine ⟨rfl, ?_⟩
      exact ⟨true, H, ⟨rfl, rfl, rfl, rfl, rfl, rfl, rfl, rfl, rfl, trivial⟩, trivial⟩
    ·have h23 := un2 h12
     replace H := iff_ h23 H
     refine seq_skip rfl rfl h12 ?_
     refine seq_skip rfl rfl h12 ?_
     refine seq_skip rfl rfl h12 ?_
     refine seq_skipU rfl rfl ?_
     refine seq_skipU rfl rfl ?_
     refine seq_skipU rfl rfl ?_
     refine seq_skipU rfl rfl ?_
     refine seq_skipU rfl rfl ?_
     refine seq_skipU rfl rfl ?_
     refine seq_skipU rfl rfl ?_
     refine seq_skipU rfl rfl ?_
     refine seq_skipU rfl rfl ?_
     refine seq_skipU rfl rfl ?_
     refine seq_skipU rfl rfl ?_
     refine seq_skipU rfl rfl ?_
     refine seq_skipU rfl rfl ?_
     refine seq_skipU rfl rfl ?_
     refine seq_skipU rfl rfl ?_
     refine seq_skipU rfl rfl ?_
     refine seq_skipU rfl rfl ?_
     refine seq_skipU rfl rfl ?_
     refine seq_skipU rfl rfl ?_
     refine seq_skipU rfl rfl ?_
     refine seq_skip rfl rfl h12 ?_
     refine seq_run0 (stp_pick_f rfl (bFF h23) rfl) ?_
     refine ⟨rfl, ?_⟩
     exact ⟨false, H, ⟨rfl, rfl, rfl, rfl, rfl, rfl, rfl, rfl, rfl, trivial⟩, trivial⟩
   ·rintro v24 H
    replace H : upstream_least_J3 best3 k4 v24 = some q5 := H
    unfold upstream_least_J3 at H
    refine awp_cond _ rfl (fun h25 => ?_) (fun h25 => ?_)
    ·replace H := ift h25 H
     refine awp_plain hN rfl ?_
     refine qd rfl ?_
     refine qe rfl ?_
     exact ⟨(k4 : Int), H, ⟨rfl, rfl, rfl, rfl, rfl, rfl, rfl, trivial⟩, trivial⟩
    ·replace H := iff_ h25 H
     refine awp_skip ?_
     exact ⟨best3, H, ⟨rfl, rfl, rfl, rfl, rfl, rfl, rfl, trivial⟩, trivial⟩
  ·rintro best26 H
   replace H : upstream_least_J2 best26 = some q5 := H
   unfold upstream_least_J2 at H
   refine awp_plain hN rfl ?_
   refine seq_run0 (stp_add rfl rfl (by omega)) ?_
   refine qd rfl ?_
   exact ⟨_, backl H, ⟨rfl, rfl, rfl, rfl, rfl, rfl, rfl, trivial⟩, trivial⟩
theorem k_upstream_anyOne (v1 : Int) (r : (Bool)) (H : m_upstream_anyOne v1 = some r) : Fn Tryz.prog 36 [vint v1] (resOf [vbool r]) := by
 refine ⟨by kernel_rfl, pure_of (us := [vbool r]) Tryz.func36 rfl rfl rfl rfl fun X hN => ?_⟩
 unfold m_upstream_anyOne at H
 refine awp_seq ?_
 refine awp_plain hN rfl ?_
 refine qe rfl ?_
 refine awp_seq ?_
 refine awp_plain hN rfl ?_
 refine qe rfl ?_
 refine awp_ret ?_
 cases H
 exact ⟨trivial, .inl rfl, trivial⟩
theorem k_upstream_Least (l1 : (List S_api_Instance)) (loads2 : (List S_api_Load)) (r : (Bs × Int)) (H : m_upstream_Least l1 loads2 = some r) : Fn Tryz.prog 10 [vlst (List.map C_api_Instance l1), vlst (List.map C_api_Load loads2)] (resOf [vstr r.1, vint r.2]) := by
 refine ⟨by kernel_rfl, pure_of (us := [vstr r.1, vint r.2]) Tryz.func10 rfl rfl rfl rfl fun X hN => ?_⟩
 unfold m_upstream_Least at H
 refine awp_seq ?_
 refine awp_plain hN rfl ?_
 refine qe rfl ?_
 refine qe rfl ?_
 refine awp_seq ?_
 refine awp_plain hN rfl ?_
 refine qd rfl ?_
 refine qd rfl ?_
 obtain ⟨r3, h4, H⟩ := bnd H
 refine seq_run0 (stp_call (k_upstream_loadsOf l1 loads2 r3 h4) ⟨.inl rfl, .inl rfl, trivial⟩) ?_
 refine qd rfl ?_
 refine seq_run0 (stp_ext rfl rfl) ?_
 refine seq_run0 (stp_ext rfl rfl) ?_
 refine qe rfl ?_
 refine qe rfl ?_
 refine awp_seq ?_
 refine awp_seq ?_
 refine awp_plain hN rfl ?_
 refine qd rfl ?_
 refine seq_run0 (stp_neq rfl rfl) ?_
 refine awp_cond _ rfl (fun h5 => ?_) (fun h5 => ?_)
 ·replace H := ift h5 H
  refine awp_seq ?_
  refine awp_plain hN rfl ?_
  refine qd rfl ?_
  refine qe rfl ?_
  refine qe rfl ?_
  refine awp_ret ?_
  cases H
  exact ⟨trivial, .inl rfl, .inl rfl, trivial⟩
 ·replace H := iff_ h5 H
  refine awp_skip ?_
  refine awp_seq ?_
  refine awp_seq ?_
  refine awp_plain hN rfl ?_
  refine qd rfl ?_
  refine seq_run0 (t_len tyU26 rfl) ?_
  refine seq_run0 (stp_eql rfl rfl) ?_
  refine awp_cond _ rfl (fun h6 => ?_) (fun h6 => ?_)
  ·replace H := ift h6 H
   refine awp_seq ?_
   refine awp_plain hN rfl ?_
   refine qe rfl ?_
   refine qe rfl ?_
   refine awp_ret ?_
   cases H
   exact ⟨trivial, .inl rfl, .inl rfl, trivial⟩
  ·replace H := iff_ h6 H
   refine awp_skip ?_
   refine awp_seq ?_
   refine awp_plain hN rfl ?_
   refine qd rfl ?_
   refine qd rfl ?_
   refine qd rfl ?_
   obtain ⟨r7, h8, H⟩ := bnd H
   refine seq_run0 (stp_callW (k_upstream_least l1 r3.1 (fun (a0 : Int) => m_upstream_anyOne a0) 36 [] (fun a0 r h => k_upstream_anyOne a0 r h) r7 h8) ⟨.inl (.inl rfl), .inl (.inl rfl), .inr ⟨_, rfl, rfl⟩, trivial⟩) ?_
   obtain ⟨x9, h10, H⟩ := bnd H
   refine seq_run0 (t_idxI tyE26 (fun _ => rfl) rfl rfl h10) ?_
   refine seq_run0 (stp_fldE tyF55_0 rfl) ?_
   refine seq_run0 (stp_loadE1 tyS9 rfl (map_at (at_some h10).2) rfl) ?_
   refine qe rfl ?_
   refine qe rfl ?_
   refine awp_ret ?_
   cases H
   exact ⟨trivial, .inl rfl, .inl rfl, trivial⟩
theorem k_upstream_Bounded (v1 : (List S_api_Instance)) (v2 : (List S_api_Load)) (v3 : Bs) (v4 : Int) (r : (Bs × Int)) (H : m_upstream_Bounded v1 v2 v3 v4 = some r) : Fn Tryz.prog 11 [vlst (List.map C_api_Instance v1), vlst (List.map C_api_Load v2), vstr v3, vint v4] (resOf [vstr r.1, vint r.2]) := by
 refine ⟨by kernel_rfl, pure_of (us := [vstr r.1, vint r.2]) Tryz.func11 rfl rfl rfl rfl fun X hN => ?_⟩
 unfold m_upstream_Bounded at H
 refine awp_seq ?_
 refine awp_plain hN rfl ?_
 refine qe rfl ?_
 refine qe rfl ?_
 refine awp_seq ?_
 refine awp_plain hN rfl ?_
 refine qd rfl ?_
 refine qd rfl ?_
 obtain ⟨r5, h6, H⟩ := bnd H
 refine seq_run0 (stp_call (k_upstream_loadsOf v1 v2 r5 h6) ⟨.inl rfl, .inl rfl, trivial⟩) ?_
 refine qd rfl ?_
 refine seq_run0 (stp_ext rfl rfl) ?_
 refine seq_run0 (stp_ext rfl rfl) ?_
 refine qe rfl ?_
 refine qe rfl ?_
 refine awp_seq ?_
 refine awp_seq ?_
 refine awp_plain hN rfl ?_
 refine qd rfl ?_
 refine seq_run0 (stp_neq rfl rfl) ?_
 refine awp_cond _ rfl (fun h7 => ?_) (fun h7 => ?_)
 ·replace H := ift h7 H
  refine awp_seq ?_
  refine awp_plain hN rfl ?_
  refine qd rfl ?_
  refine qe rfl ?_
  refine qe rfl ?_
  refine awp_ret ?_
  cases H
  exact ⟨trivial, .inl rfl, .inl rfl, trivial⟩
 ·replace H := iff_ h7 H
  refine awp_skip ?_
  refine awp_seq ?_
  refine awp_seq ?_
  refine awp_plain hN rfl ?_
  refine qd rfl ?_
  obtain ⟨r8, h9, H⟩ := bnd H
  refine seq_run0 (stp_call (k_kit_Outside v4 1000 1000000 r8 h9) ⟨.inl rfl, .inl rfl, .inl rfl, trivial⟩) ?_
  refine awp_cond _ rfl (fun h10 => ?_) (fun h10 => ?_)
  ·replace H := ift h10 H
   refine awp_seq ?_
   refine awp_plain hN rfl ?_
   refine qe rfl ?_
   refine qe rfl ?_
   refine awp_ret ?_
   cases H
   exact ⟨trivial, .inl rfl, .inl rfl, trivial⟩
  ·replace H := iff_ h10 H
   refine awp_skip ?_
   refine awp_seq ?_
   refine awp_seq ?_
   refine awp_plain hN rfl ?_
   refine qd rfl ?_
   obtain ⟨r11, h12, H⟩ := bnd H
   refine seq_run0 (stp_call (k_upstream_keyFault v3 r11 h12) ⟨.inl rfl, trivial⟩) ?_
   refine qe rfl ?_
   refine awp_seq ?_
   refine awp_plain hN rfl ?_
   refine qd rfl ?_
   refine seq_run0 (stp_neq rfl rfl) ?_
   refine awp_cond _ rfl (fun h13 => ?_) (fun h13 => ?_)
   ·replace H := ift h13 H
    refine awp_seq ?_
    refine awp_plain hN rfl ?_
    refine qd rfl ?_
    refine qe rfl ?_
    refine qe rfl ?_
    refine awp_ret ?_
    cases H
    exact ⟨trivial, .inl rfl, .inl rfl, trivial⟩
   ·replace H := iff_ h13 H
    refine awp_skip ?_
    refine awp_seq ?_
    refine awp_seq ?_
    refine awp_plain hN rfl ?_
    refine qd rfl ?_
    refine seq_run0 (t_len tyU26 rfl) ?_
    refine seq_run0 (stp_eql rfl rfl) ?_
    refine awp_cond _ rfl (fun h14 => ?_) (fun h14 => ?_)
    ·replace H := ift h14 H
     refine awp_seq ?_
     refine awp_plain hN rfl ?_
     refine qe rfl ?_
     refine qe rfl ?_
     refine awp_ret ?_
     cases H
     exact ⟨trivial, .inl rfl, .inl rfl, trivial⟩
    ·replace H := iff_ h14 H
     refine awp_skip ?_
     refine awp_seq ?_
     refine awp_plain hN rfl ?_
     refine qe rfl ?_
     refine awp_seq ?_
     refine awp_seq ?_
     refine awp_plain hN rfl ?_
     refine qd rfl ?_
     refine seq_run0 (t_len tyU22 rfl) ?_
     refine qd rfl ?_
     refine awp_block ?_
     obtain ⟨h18, H⟩ := gif H
     refine awp_forL (fun (k16 : Nat) (s : Int) => [(0, .dat (vlst (List.map C_api_Instance v1))), (2, .dat (vstr v3)), (3, .dat (vint v4)), (10, .dat (vlst (List.map C_int r5.1))), (13, .dat (vint s)), (39, .dat (vlst (List.map C_int r5.1))), (40, .dat (vint (r5.1.length : Int))), (41, .dat (vint (k16 : Int)))]) (fun (k16 : Nat) (s : Int) => []) 0 H ⟨rfl, rfl, rfl, rfl, rfl, rfl, rfl, rfl, trivial⟩ trivial (fun _ _ => rfl) ?_ ?_
     ·rintro v15 H
      replace H : upstream_Bounded_E1 v1 v3 v4 r5 v15 = some r := H
      unfold upstream_Bounded_E1 at H
      refine awp_seq ?_
      refine awp_plain hN rfl ?_
      refine seq_run0 (stp_lss rfl rfl) ?_
      refine awp_seq ?_
      refine awp_cond _ rfl (fun h => (lt_t h).elim) (fun h => ?_)
      refine awp_exit ?_
      refine awp_seq ?_
      refine awp_seq ?_
      refine awp_plain hN rfl ?_
      refine qd rfl ?_
      refine qd rfl ?_
      obtain ⟨r20, h21, H⟩ := bnd H
      refine seq_run0 (stp_call (k_upstream_ordered v1 v3 r20 h21) ⟨.inl rfl, .inl rfl, trivial⟩) ?_
      refine seq_run0 (t_len tyU26 rfl) ?_
      refine qd rfl ?_
      refine awp_block ?_
      obtain ⟨h24, H⟩ := gif H
      refine awp_forL (fun (k22 : Nat) (s : Unit) => [(0, .dat (vlst (List.map C_api_Instance v1))), (3, .dat (vint v4)), (10, .dat (vlst (List.map C_int r5.1))), (13, .dat (vint v15)), (51, .dat (vlst (List.map C_api_Instance r20))), (52, .dat (vint (r20.length : Int))), (53, .dat (vint (k22 : Int)))]) (fun (k22 : Nat) (s : Unit) => []) () H ⟨rfl, rfl, rfl, rfl, rfl, rfl, rfl, trivial⟩ trivial (fun _ _ => rfl) ?_ ?_
      ·rintro ⟨⟩ H
       replace H : upstream_Bounded_E2 v1 r5 = some r := H
       unfold upstream_Bounded_E2 at H
       refine awp_seq ?_
       refine awp_plain hN rfl ?_
       refine seq_run0 (stp_lss rfl rfl) ?_
       refine awp_seq ?_
       refine awp_cond _ rfl (fun h => (lt_t h).elim) (fun h => ?_)
       refine awp_exit ?_
       refine awp_seq ?_
       refine awp_plain hN rfl ?_
       refine qd rfl ?_
       refine qd rfl ?_
       refine qd rfl ?_
       obtain ⟨r26, h27, H⟩ := bnd H
       refine seq_run0 (stp_callW (k_upstream_least v1 r5.1 (fun (a0 : Int) => m_upstream_anyOne a0) 36 [] (fun a0 r h => k_upstream_anyOne a0 r h) r26 h27) ⟨.inl (.inl rfl), .inl (.inl rfl), .inr ⟨_, rfl, rfl⟩, trivial⟩) ?_
       obtain ⟨x28, h29, H⟩ := bnd H
       refine seq_run0 (t_idxI tyE26 (fun _ => rfl) rfl rfl h29) ?_
       refine seq_run0 (stp_fldE tyF55_0 rfl) ?_
       refine seq_run0 (stp_loadE1 tyS9 rfl (map_at (at_some h29).2) rfl) ?_
       refine qe rfl ?_
       refine qe rfl ?_
       refine awp_ret ?_
       cases H
       exact ⟨trivial, .inl rfl, .inl rfl, trivial⟩
      ·rintro k22 x25 ⟨⟩ q23 h30 h31 H hq23
       replace H : upstream_Bounded_L2 v1 v4 r5 v15 k22 x25 = some q23 := H
       unfold upstream_Bounded_L2 at H
       refine awp_seq ?_
       refine awp_plain hN rfl ?_
       refine seq_run0 (stp_lss rfl rfl) ?_
       refine awp_seq ?_
       refine awp_cond _ rfl (fun h => ?_) (fun h => (lt_f h30 h).elim)
       refine awp_skip ?_
       refine awp_seq ?_
       refine awp_block ?_
       refine awp_seq ?_
       refine awp_plain hN rfl ?_
       refine seq_run0 (t_idx tyE26 (fun _ => rfl) rfl rfl h31) ?_
       refine seq_run0 (stp_loadEA tyS55 rfl (map_at h31) rfl) ?_
       refine seq_run2 (stp_alloc 1 tyZ55 rfl) rfl ?_
       refine seq_run2 (stp_storeW tyS55 rfl rfl rfl rfl) rfl ?_
       refine awp_seq ?_
       refine awp_plain hN rfl ?_
       refine qd rfl ?_
       refine seq_run0 (stp_fldP tyF55_0 rfl) ?_
       refine seq_run1 (stp_load1 tyS9 rfl rfl) rfl ?_
       obtain ⟨r32, h33, H⟩ := bnd H
       refine seq_run0 (stp_call (k_upstream_place v1 x25.Key r32 h33) ⟨.inl rfl, .inl rfl, trivial⟩) ?_
       refine qd rfl ?_
       refine seq_run0 (stp_ext rfl rfl) ?_
       refine seq_run0 (stp_ext rfl rfl) ?_
       refine qe rfl ?_
       refine qe rfl ?_
       refine awp_seq ?_
       refine awp_draw mixed hN rfl rfl ?_
       refine qd rfl ?_
       refine qd rfl ?_
       obtain ⟨x34, h35, H⟩ := bnd H
       refine seq_run0 (t_idxI tyE22 (fun _ => rfl) rfl rfl h35) ?_
       refine seq_run0 (stp_loadE1 tyS3 rfl (map_at (at_some h35).2) rfl) ?_
       refine seq_run0 (stp_wrap _ rfl rfl (.inl ⟨rfl, rfl⟩)) ?_
       refine seq_run0 (stp_wrap _ rfl rfl (.inr (.inr ⟨rfl, rfl⟩))) ?_
       refine qd rfl ?_
       obtain ⟨r36, h37, H⟩ := bnd H
       refine seq_run0 (stp_call (k_upstream_weights v1 r36 h37) ⟨.inl rfl, trivial⟩) ?_
       refine seq_run0 (stp_wrap _ rfl rfl (.inr (.inr ⟨rfl, rfl⟩))) ?_
       refine qd rfl ?_
       refine seq_run0 (stp_fldP tyF55_1 rfl) ?_
       refine seq_run1 (stp_load1 tyS3 rfl rfl) rfl ?_
       refine seq_run0 (stp_wrap _ rfl rfl (.inr (.inr ⟨rfl, rfl⟩))) ?_
       refine qd rfl ?_
       refine seq_run0 (stp_wrap _ rfl rfl (.inl ⟨rfl, rfl⟩)) ?_
       refine seq_run0 (stp_wrap _ rfl rfl (.inr (.inr ⟨rfl, rfl⟩))) ?_
       refine seq_run0 (stp_leq rfl rfl) ?_
       refine ⟨rfl, ?_⟩
       refine awp_cond _ rfl (fun h38 => ?_) (fun h38 => ?_)
       ·replace H := ift h38 H
        refine awp_seq ?_
        refine awp_plain hN rfl ?_
        refine seq_run0 (stp_fldP tyF55_0 rfl) ?_
        refine seq_run1 (stp_load1 tyS9 rfl rfl) rfl ?_
        refine qe rfl ?_
        refine qe rfl ?_
        refine awp_ret ?_
        replace H := retl H hq23
        cases H
        exact ⟨trivial, .inl rfl, .inl rfl, trivial⟩
       ·replace H := iff_ h38 H
        refine awp_skip ?_
        refine awp_plain hN rfl ?_
        refine seq_run0 (stp_add rfl rfl (by omega)) ?_
        refine qd rfl ?_
        exact ⟨_, backl H, ⟨rfl, rfl, rfl, rfl, rfl, rfl, rfl, trivial⟩, trivial⟩
     ·rintro k16 x19 v15 q17 h39 h40 H hq17
      replace H : upstream_Bounded_L1 k16 x19 v15 = some q17 := H
      unfold upstream_Bounded_L1 at H
      refine awp_seq ?_
      refine awp_plain hN rfl ?_
      refine seq_run0 (stp_lss rfl rfl) ?_
      refine awp_seq ?_
      refine awp_cond _ rfl (fun h => ?_) (fun h => (lt_f h39 h).elim)
      refine awp_skip ?_
      refine awp_seq ?_
      refine awp_block ?_
      refine awp_seq ?_
      refine awp_plain hN rfl ?_
      refine seq_run0 (t_idx tyE22 (fun _ => rfl) rfl rfl h40) ?_
      refine seq_run0 (stp_loadE1 tyS3 rfl (map_at h40) rfl) ?_
      refine qe rfl ?_
      refine awp_plain hN rfl ?_
      refine qd rfl ?_
      refine qd rfl ?_
      refine seq_run0 (stp_wrap _ rfl rfl (.inl ⟨rfl, rfl⟩)) ?_
      refine qe rfl ?_
      refine awp_plain hN rfl ?_
      refine seq_run0 (stp_add rfl rfl (by omega)) ?_
      refine qd rfl ?_
      exact ⟨_, backl H, ⟨rfl, rfl, rfl, rfl, rfl, rfl, rfl, rfl, trivial⟩, trivial⟩
theorem k_gateref2_in (n1 : Int) (low2 : Int) (high3 : Int) (r : (Bool)) (H : m_gateref2_in n1 low2 high3 = some r) : Fn Tryz.prog 39 [vint n1, vint low2, vint high3] (resOf [vbool r]) := by
 refine ⟨by kernel_rfl, pure_of (us := [vbool r]) Tryz.func39 rfl rfl rfl rfl fun X hN => ?_⟩
 unfold m_gateref2_in at H
 refine awp_seq ?_
 refine awp_plain hN rfl ?_
 refine qe rfl ?_
 refine awp_seq ?_
 refine awp_plain hN rfl ?_
 refine qd rfl ?_
 refine qd rfl ?_
 refine seq_run0 (stp_leq rfl rfl) ?_
 refine qd rfl ?_
 refine seq_aT rfl rfl (fun hc => stp_move (.dat _) rfl) ?_
 refine seq_aT rfl rfl (fun hc => stp_move (.dat _) rfl) ?_
 refine seq_aT rfl rfl (fun hc => stp_leq (cnd (c := (decide (low2 ≤ n1))) hc) (cnd (c := (decide (low2 ≤ n1))) hc)) ?_
 refine seq_run0 (stp_pick_and rfl (fun hb => (cnd (c := (decide (low2 ≤ n1))) hb)) rfl) ?_
 refine qe rfl ?_
 refine awp_ret ?_
 cases H
 exact ⟨trivial, .inl rfl, trivial⟩
theorem k_strings_IndexByte (l : Bs) (c r : Int) (H : m_strings_IndexByte l c = some r) : Fn Tryz.prog 78 [vstr l, vval (.int .u8 c)] (resOf [vint r]) := by
 cases H
 refine fn_of_calls (by kernel_rfl) fun M w vs h => ?_
 have h1 := Ts_vals (us := [.string ⟨l.toArray⟩, .int .u8 c]) h
 subst h1
 refine (Tryz.strings_IndexByte ⟨l.toArray⟩ c w).mono ?_
 rintro e w' ⟨rfl, rfl⟩
 exact ⟨_, rfl, rfl, Kp.refl _ _⟩
theorem k_gateref2_only (s1 : Bs) (some2 : Bs) (r : (Bool)) (H : m_gateref2_only s1 some2 = some r) : Fn Tryz.prog 64 [vstr s1, vstr some2] (resOf [vbool r]) := by
 refine ⟨by kernel_rfl, pure_of (us := [vbool r]) Tryz.func64 rfl rfl rfl rfl fun X hN => ?_⟩
 unfold m_gateref2_only at H
 refine awp_seq ?_
 refine awp_plain hN rfl ?_
 refine qe rfl ?_
 refine awp_seq ?_
 refine awp_seq ?_
 refine awp_plain hN rfl ?_
 refine qd rfl ?_
 refine seq_run0 (stp_len_str tyU9 rfl) ?_
 refine qd rfl ?_
 refine awp_block ?_
 obtain ⟨h5, H⟩ := gif H
 refine awp_forL (fun (k3 : Nat) (s : Unit) => [(0, .dat (vstr s1)), (1, .dat (vstr some2)), (7, .dat (vint (s1.length : Int))), (8, .dat (vint (k3 : Int)))]) (fun (k3 : Nat) (s : Unit) => []) () H ⟨rfl, rfl, rfl, rfl, trivial⟩ trivial (fun _ _ => rfl) ?_ ?_
 ·rintro ⟨⟩ H
  replace H : gateref2_only_E1 = some r := H
  unfold gateref2_only_E1 at H
  refine awp_seq ?_
  refine awp_plain hN rfl ?_
  refine seq_run0 (stp_lss rfl rfl) ?_
  refine awp_seq ?_
  refine awp_cond _ rfl (fun h => (lt_t h).elim) (fun h => ?_)
  refine awp_exit ?_
  refine awp_seq ?_
  refine awp_plain hN rfl ?_
  refine qe rfl ?_
  refine awp_ret ?_
  cases H
  exact ⟨trivial, .inl rfl, trivial⟩
 ·rintro k3 x6 ⟨⟩ q4 h7 h8 H hq4
  replace H : gateref2_only_L1 some2 k3 x6 = some q4 := H
  unfold gateref2_only_L1 at H
  refine awp_seq ?_
  refine awp_plain hN rfl ?_
  refine seq_run0 (stp_lss rfl rfl) ?_
  refine awp_seq ?_
  refine awp_cond _ rfl (fun h => ?_) (fun h => (lt_f h7 h).elim)
  refine awp_skip ?_
  refine awp_seq ?_
  refine awp_block ?_
  refine awp_seq ?_
  refine awp_plain hN rfl ?_
  refine qd rfl ?_
  refine qe rfl ?_
  refine awp_seq ?_
  refine awp_plain hN rfl ?_
  refine qd rfl ?_
  refine qd rfl ?_
  refine qd rfl ?_
  refine seq_run0 (t_byte tyU9 rfl rfl h8) ?_
  obtain ⟨r9, h10, H⟩ := bnd H
  refine seq_run0 (stp_call (k_strings_IndexByte some2 (x6.toNat : Int) r9 h10) ⟨.inl rfl, .inl rfl, trivial⟩) ?_
  refine seq_run0 (stp_lss rfl rfl) ?_
  refine awp_cond _ rfl (fun h11 => ?_) (fun h11 => ?_)
  ·replace H := ift h11 H
   refine awp_seq ?_
   refine awp_plain hN rfl ?_
   refine qe rfl ?_
   refine awp_ret ?_
   replace H := retl H hq4
   cases H
   exact ⟨trivial, .inl rfl, trivial⟩
  ·replace H := iff_ h11 H
   refine awp_skip ?_
   refine awp_plain hN rfl ?_
   refine seq_run0 (stp_add rfl rfl (by omega)) ?_
   refine qd rfl ?_
   exact ⟨_, backl H, ⟨rfl, rfl, rfl, rfl, trivial⟩, trivial⟩
theorem k_gateref2_Key (s1 : Bs) (r : (Bool)) (H : m_gateref2_Key s1 = some r) : Fn Tryz.prog 38 [vstr s1] (resOf [vbool r]) := by
 refine ⟨by kernel_rfl, pure_of (us := [vbool r]) Tryz.func38 rfl rfl rfl rfl fun X hN => ?_⟩
 unfold m_gateref2_Key at H
 refine awp_seq ?_
 refine awp_plain hN rfl ?_
 refine qe rfl ?_
 refine awp_joinE (ι := Bool) (fun i => [(2, .dat (vbool i))]) (fun i => []) (fun i => gateref2_Key_J1 i = some r) (fun i => rfl) ?_ ?_
 ·skip
  refine awp_plain hN rfl ?_
  refine qd rfl ?_
  refine seq_run0 (stp_len_str tyU9 rfl) ?_
  obtain ⟨r2, h3, H⟩ := bnd H
  refine seq_run0 (stp_call (k_gateref2_in (s1.length : Int) 1 40 r2 h3) ⟨.inl rfl, .inl rfl, .inl rfl, trivial⟩) ?_
  refine qd rfl ?_
  refine seq_split (j := 3) rfl rfl (fun h4 => ?_) (fun h4 => ?_) rfl
  ·have h5 := un1 h4
   replace H := ift h5 H
   refine seq_g0 rfl rfl h4 (stp_move (.dat _) rfl) ?_
   obtain ⟨l6, h7, H⟩ := bnd H
   refine seq_g0 rfl rfl h4 (t_subS tyU9 rfl rfl rfl h7) ?_
   obtain ⟨r8, h9, H⟩ := bnd H
   refine seq_g0 rfl rfl h4 (stp_call (k_gateref2_only l6 [97, 98, 99, 100, 101, 102, 103, 104, 105, 106, 107, 108, 109, 110, 111, 112, 113, 114, 115, 116, 117, 118, 119, 120, 121, 122] r8 h9) ⟨.inl rfl, .inl rfl, trivial⟩) ?_
   refine seq_run0 (stp_pick_t rfl (bTT h5) rfl) ?_
   refine qd rfl ?_
   refine seq_split (j := 8) rfl rfl (fun h10 => ?_) (fun h10 => ?_) rfl
   ·have h11 := un1 h10
    replace H := ift h11 H
    refine seq_g0 rfl rfl h10 (stp_move (.dat _) rfl) ?_
    obtain ⟨r12, h13, H⟩ := bnd H
    refine seq_g0 rfl rfl h10 (stp_call (k_gateref2_only s1 [97, 98, 99, 100, 101, 102, 103, 104, 105, 106, 107, 108, 109, 110, 111, 112, 113, 114, 115, 116, 117, 118, 119, 120, 121, 122, 48, 49, 50, 51, 52, 53, 54, 55, 56, 57, 45, 95] r12 h13) ⟨.inl rfl, .inl rfl, trivial⟩) ?_
    refine seq_run0 (stp_pick_t rfl (bTT h11) rfl) ?_
    refine qe rfl ?_
    exact ⟨r12, H, ⟨rfl, trivial⟩, trivial⟩
   ·have h14 := un2 h10
    replace H := iff_ h14 H
    refine seq_skip rfl rfl h10 ?_
    refine seq_skip rfl rfl h10 ?_
    refine seq_run0 (stp_pick_f rfl (bFF h14) rfl) ?_
    refine qe rfl ?_
    exact ⟨false, H, ⟨rfl, trivial⟩, trivial⟩
  ·have h15 := un2 h4
   replace H := iff_ h15 H
   refine seq_skip rfl rfl h4 ?_
   refine seq_skip rfl rfl h4 ?_
   refine seq_skip rfl rfl h4 ?_
   refine seq_run0 (stp_pick_f rfl (bFF h15) rfl) ?_
   refine qd rfl ?_
   refine seq_skip rfl rfl rfl ?_
   refine seq_skip rfl rfl rfl ?_
   refine seq_run0 (stp_pick_f rfl rfl rfl) ?_
   refine qe rfl ?_
   exact ⟨false, H, ⟨rfl, trivial⟩, trivial⟩
 ·rintro v16 H
  replace H : gateref2_Key_J1 v16 = some r := H
  unfold gateref2_Key_J1 at H
  refine awp_ret ?_
  cases H
  exact ⟨trivial, .inl rfl, trivial⟩
theorem k_gateref2_InstancesFault (l1 : (List S_api_Instance)) (r : (Int)) (H : m_gateref2_InstancesFault l1 = some r) : Fn Tryz.prog 12 [vlst (List.map C_api_Instance l1)] (resOf [vint r]) := by
 refine ⟨by kernel_rfl, pure_of (us := [vint r]) Tryz.func12 rfl rfl rfl rfl fun X hN => ?_⟩
 unfold m_gateref2_InstancesFault at H
 refine awp_seq ?_
 refine awp_plain hN rfl ?_
 refine qe rfl ?_
 refine awp_seq ?_
 refine awp_seq ?_
 refine awp_plain hN rfl ?_
 refine qd rfl ?_
 refine seq_run0 (t_len tyU26 rfl) ?_
 refine seq_run0 (stp_gtr rfl rfl) ?_
 refine awp_cond _ rfl (fun h2 => ?_) (fun h2 => ?_)
 ·replace H := ift h2 H
  refine awp_seq ?_
  refine awp_plain hN rfl ?_
  refine qe rfl ?_
  refine awp_ret ?_
  cases H
  exact ⟨trivial, .inl rfl, trivial⟩
 ·replace H := iff_ h2 H
  refine awp_skip ?_
  refine awp_seq ?_
  refine awp_plain hN rfl ?_
  refine qe rfl ?_
  refine awp_seq ?_
  refine awp_seq ?_
  refine awp_plain hN rfl ?_
  refine qd rfl ?_
  refine seq_run0 (t_len tyU26 rfl) ?_
  refine qd rfl ?_
  refine awp_block ?_
  obtain ⟨h6, H⟩ := gif H
  refine awp_forL (fun (k4 : Nat) (s : Bs) => [(3, .dat (vstr s)), (9, .dat (vlst (List.map C_api_Instance l1))), (10, .dat (vint (l1.length : Int))), (11, .dat (vint (k4 : Int)))]) (fun (k4 : Nat) (s : Bs) => []) [] H ⟨rfl, rfl, rfl, rfl, trivial⟩ trivial (fun _ _ => rfl) ?_ ?_
  ·rintro last3 H
   replace H : gateref2_InstancesFault_E1 last3 = some r := H
   unfold gateref2_InstancesFault_E1 at H
   refine awp_seq ?_
   refine awp_plain hN rfl ?_
   refine seq_run0 (stp_lss rfl rfl) ?_
   refine awp_seq ?_
   refine awp_cond _ rfl (fun h => (lt_t h).elim) (fun h => ?_)
   refine awp_exit ?_
   refine awp_seq ?_
   refine awp_plain hN rfl ?_
   refine qe rfl ?_
   refine awp_ret ?_
   cases H
   exact ⟨trivial, .inl rfl, trivial⟩
  ·rintro k4 x7 last3 q5 h8 h9 H hq5
   replace H : gateref2_InstancesFault_L1 k4 x7 last3 = some q5 := H
   unfold gateref2_InstancesFault_L1 at H
   refine awp_seq ?_
   refine awp_plain hN rfl ?_
   refine seq_run0 (stp_lss rfl rfl) ?_
   refine awp_seq ?_
   refine awp_cond _ rfl (fun h => ?_) (fun h => (lt_f h8 h).elim)
   refine awp_skip ?_
   refine awp_seq ?_
   refine awp_block ?_
   refine awp_seq ?_
   refine awp_plain hN rfl ?_
   refine seq_run0 (t_idx tyE26 (fun _ => rfl) rfl rfl h9) ?_
   refine seq_run0 (stp_loadEA tyS55 rfl (map_at h9) rfl) ?_
   refine seq_run2 (stp_alloc 1 tyZ55 rfl) rfl ?_
   refine seq_run2 (stp_storeW tyS55 rfl rfl rfl rfl) rfl ?_
   refine awp_seq ?_
   refine awp_block ?_
   refine awp_seq ?_
   refine awp_plain hN rfl ?_
   refine seq_run0 (stp_fldP tyF55_0 rfl) ?_
   refine seq_run1 (stp_load1 tyS9 rfl rfl) rfl ?_
   obtain ⟨r10, h11, H⟩ := bnd H
   refine seq_run0 (stp_call (k_gateref2_Key x7.Key r10 h11) ⟨.inl rfl, trivial⟩) ?_
   refine seq_run0 (stp_not rfl) ?_
   refine qe rfl ?_
   refine awp_cond _ rfl (fun h12 => ?_) (fun h12 => ?_)
   ·replace H := ift h12 H
    refine awp_seq ?_
    refine awp_plain hN rfl ?_
    refine qe rfl ?_
    refine awp_ret ?_
    replace H := retl H hq5
    cases H
    exact ⟨trivial, .inl rfl, trivial⟩
   ·replace H := iff_ h12 H
    refine awp_seq ?_
    refine awp_plain hN rfl ?_
    refine seq_run0 (stp_fldP tyF55_0 rfl) ?_
    refine seq_run1 (stp_load1 tyS9 rfl rfl) rfl ?_
    refine qd rfl ?_
    refine seq_run0 (stp_sleq rfl rfl) ?_
    refine qe rfl ?_
    refine awp_cond _ rfl (fun h13 => ?_) (fun h13 => ?_)
    ·replace H := ift h13 H
     refine awp_seq ?_
     refine awp_plain hN rfl ?_
     refine qe rfl ?_
     refine awp_ret ?_
     replace H := retl H hq5
     cases H
     exact ⟨trivial, .inl rfl, trivial⟩
    ·replace H := iff_ h13 H
     refine awp_seq ?_
     refine awp_plain hN rfl ?_
     refine seq_run0 (stp_fldP tyF55_1 rfl) ?_
     refine seq_run1 (stp_load1 tyS3 rfl rfl) rfl ?_
     obtain ⟨r14, h15, H⟩ := bnd H
     refine seq_run0 (stp_call (k_gateref2_in x7.Weight 1 100 r14 h15) ⟨.inl rfl, .inl rfl, .inl rfl, trivial⟩) ?_
     refine seq_run0 (stp_not rfl) ?_
     refine qe rfl ?_
     refine awp_cond _ rfl (fun h16 => ?_) (fun h16 => ?_)
     ·replace H := ift h16 H
      refine awp_seq ?_
      refine awp_plain hN rfl ?_
      refine qe rfl ?_
      refine awp_ret ?_
      replace H := retl H hq5
      cases H
      exact ⟨trivial, .inl rfl, trivial⟩
     ·replace H := iff_ h16 H
      refine awp_skip ?_
      refine awp_plain hN rfl ?_
      refine seq_run0 (stp_fldP tyF55_0 rfl) ?_
      refine seq_run1 (stp_load1 tyS9 rfl rfl) rfl ?_
      refine qe rfl ?_
      refine awp_plain hN rfl ?_
      refine seq_run0 (stp_add rfl rfl (by omega)) ?_
      refine qd rfl ?_
      exact ⟨_, backl H, ⟨rfl, rfl, rfl, rfl, trivial⟩, trivial⟩
theorem k_gatelaw2_when (is1 : Bool) (e2 : Int) (r : (Int)) (H : m_gatelaw2_when is1 e2 = some r) : Fn Tryz.prog 13 [vbool is1, vint e2] (resOf [vint r]) := by
 refine ⟨by kernel_rfl, pure_of (us := [vint r]) Tryz.func13 rfl rfl rfl rfl fun X hN => ?_⟩
 unfold m_gatelaw2_when at H
 refine awp_seq ?_
 refine awp_plain hN rfl ?_
 refine qe rfl ?_
 refine awp_seq ?_
 refine awp_seq ?_
 refine awp_plain hN rfl ?_
 refine qd rfl ?_
 refine awp_cond _ rfl (fun h3 => ?_) (fun h3 => ?_)
 ·replace H := ift h3 H
  refine awp_seq ?_
  refine awp_plain hN rfl ?_
  refine qd rfl ?_
  refine qe rfl ?_
  refine awp_ret ?_
  cases H
  exact ⟨trivial, .inl rfl, trivial⟩
 ·replace H := iff_ h3 H
  refine awp_skip ?_
  refine awp_seq ?_
  refine awp_plain hN rfl ?_
  refine qe rfl ?_
  refine awp_ret ?_
  cases H
  exact ⟨trivial, .inl rfl, trivial⟩
theorem k_gatelaw2_errs (l1 : (List Int)) (r : (Int)) (H : m_gatelaw2_errs l1 = some r) : Fn Tryz.prog 14 [vlst (List.map C_api_Errno l1)] (resOf [vint r]) := by
 refine ⟨by kernel_rfl, pure_of (us := [vint r]) Tryz.func14 rfl rfl rfl rfl fun X hN => ?_⟩
 unfold m_gatelaw2_errs at H
 refine awp_seq ?_
 refine awp_plain hN rfl ?_
 refine qe rfl ?_
 refine awp_seq ?_
 refine awp_seq ?_
 refine awp_plain hN rfl ?_
 refine qd rfl ?_
 refine seq_run0 (t_len tyU71 rfl) ?_
 refine qd rfl ?_
 refine awp_block ?_
 obtain ⟨h4, H⟩ := gif H
 refine awp_forL (fun (k2 : Nat) (s : Unit) => [(5, .dat (vlst (List.map C_api_Errno l1))), (6, .dat (vint (l1.length : Int))), (7, .dat (vint (k2 : Int)))]) (fun (k2 : Nat) (s : Unit) => []) () H ⟨rfl, rfl, rfl, trivial⟩ trivial (fun _ _ => rfl) ?_ ?_
 ·rintro ⟨⟩ H
  replace H : gatelaw2_errs_E1 = some r := H
  unfold gatelaw2_errs_E1 at H
  refine awp_seq ?_
  refine awp_plain hN rfl ?_
  refine seq_run0 (stp_lss rfl rfl) ?_
  refine awp_seq ?_
  refine awp_cond _ rfl (fun h => (lt_t h).elim) (fun h => ?_)
  refine awp_exit ?_
  refine awp_seq ?_
  refine awp_plain hN rfl ?_
  refine qe rfl ?_
  refine awp_ret ?_
  cases H
  exact ⟨trivial, .inl rfl, trivial⟩
 ·rintro k2 x5 ⟨⟩ q3 h6 h7 H hq3
  replace H : gatelaw2_errs_L1 k2 x5 = some q3 := H
  unfold gatelaw2_errs_L1 at H
  refine awp_seq ?_
  refine awp_plain hN rfl ?_
  refine seq_run0 (stp_lss rfl rfl) ?_
  refine awp_seq ?_
  refine awp_cond _ rfl (fun h => ?_) (fun h => (lt_f h6 h).elim)
  refine awp_skip ?_
  refine awp_seq ?_
  refine awp_block ?_
  refine awp_seq ?_
  refine awp_plain hN rfl ?_
  refine seq_run0 (t_idx tyE71 (fun _ => rfl) rfl rfl h7) ?_
  refine seq_run0 (stp_loadE1 tyS33 rfl (map_at h7) rfl) ?_
  refine qe rfl ?_
  refine awp_seq ?_
  refine awp_plain hN rfl ?_
  refine qd rfl ?_
  refine seq_run0 (stp_neq rfl rfl) ?_
  refine awp_cond _ rfl (fun h8 => ?_) (fun h8 => ?_)
  ·replace H := ift h8 H
   refine awp_seq ?_
   refine awp_plain hN rfl ?_
   refine qd rfl ?_
   refine qe rfl ?_
   refine awp_ret ?_
   replace H := retl H hq3
   cases H
   exact ⟨trivial, .inl rfl, trivial⟩
  ·replace H := iff_ h8 H
   refine awp_skip ?_
   refine awp_plain hN rfl ?_
   refine seq_run0 (stp_add rfl rfl (by omega)) ?_
   refine qd rfl ?_
   exact ⟨_, backl H, ⟨rfl, rfl, rfl, trivial⟩, trivial⟩
theorem k_gateref2_OrderKey (key1 : Bs) (r : (Int)) (H : m_gateref2_OrderKey key1 = some r) : Fn Tryz.prog 15 [vstr key1] (resOf [vint r]) := by
 refine ⟨by kernel_rfl, pure_of (us := [vint r]) Tryz.func15 rfl rfl rfl rfl fun X hN => ?_⟩
 unfold m_gateref2_OrderKey at H
 refine awp_seq ?_
 refine awp_plain hN rfl ?_
 refine qe rfl ?_
 refine awp_seq ?_
 refine awp_seq ?_
 refine awp_plain hN rfl ?_
 refine qd rfl ?_
 refine seq_run0 (stp_len_str tyU9 rfl) ?_
 obtain ⟨r2, h3, H⟩ := bnd H
 refine seq_run0 (stp_call (k_gateref2_in (key1.length : Int) 1 40 r2 h3) ⟨.inl rfl, .inl rfl, .inl rfl, trivial⟩) ?_
 refine seq_run0 (stp_not rfl) ?_
 refine awp_cond _ rfl (fun h4 => ?_) (fun h4 => ?_)
 ·replace H := ift h4 H
  refine awp_seq ?_
  refine awp_plain hN rfl ?_
  refine qe rfl ?_
  refine awp_ret ?_
  cases H
  exact ⟨trivial, .inl rfl, trivial⟩
 ·replace H := iff_ h4 H
  refine awp_skip ?_
  refine awp_seq ?_
  refine awp_plain hN rfl ?_
  refine qe rfl ?_
  refine awp_ret ?_
  cases H
  exact ⟨trivial, .inl rfl, trivial⟩
theorem k_slices_IndexFunc_L_api_Instance_api_Instance_ (s1 : (List S_api_Instance)) (p1 : S_api_Instance → Option (Bool)) (fv1 : Nat) (us1 : List V) (hp1 : ∀ a0 r, p1 a0 = some r → Fn Tryz.prog fv1 ([vagg (C_api_Instance a0)] ++ us1) (resOf [vbool r])) (r : (Int)) (H : m_slices_IndexFunc_L_api_Instance_api_Instance_ s1 p1 = some r) : Fn Tryz.prog 65 [vlst (List.map C_api_Instance s1), vfn fv1 us1] (resOf [vint r]) := by
 refine ⟨by kernel_rfl, pure_of (us := [vint r]) Tryz.func65 rfl rfl rfl rfl fun X hN => ?_⟩
 unfold m_slices_IndexFunc_L_api_Instance_api_Instance_ at H
 refine awp_seq ?_
 refine awp_plain hN rfl ?_
 refine qe rfl ?_
 refine awp_seq ?_
 refine awp_seq ?_
 refine awp_plain hN rfl ?_
 refine qd rfl ?_
 refine seq_run0 (t_len tyU26 rfl) ?_
 refine qd rfl ?_
 refine awp_block ?_
 obtain ⟨h4, H⟩ := gif H
 refine awp_forL (fun (k2 : Nat) (s : Unit) => [(0, .dat (vlst (List.map C_api_Instance s1))), (1, .dat (vfn fv1 us1)), (7, .dat (vint (s1.length : Int))), (8, .dat (vint (k2 : Int)))]) (fun (k2 : Nat) (s : Unit) => []) () H ⟨rfl, rfl, rfl, rfl, trivial⟩ trivial (fun _ _ => rfl) ?_ ?_
 ·rintro ⟨⟩ H
  replace H : slices_IndexFunc_L_api_Instance_api_Instance__E1 = some r := H
  unfold slices_IndexFunc_L_api_Instance_api_Instance__E1 at H
  refine awp_seq ?_
  refine awp_plain hN rfl ?_
  refine seq_run0 (stp_lss rfl rfl) ?_
  refine awp_seq ?_
  refine awp_cond _ rfl (fun h => (lt_t h).elim) (fun h => ?_)
  refine awp_exit ?_
  refine awp_seq ?_
  refine awp_plain hN rfl ?_
  refine qe rfl ?_
  refine awp_ret ?_
  cases H
  exact ⟨trivial, .inl rfl, trivial⟩
 ·rintro k2 x5 ⟨⟩ q3 h6 h7 H hq3
  replace H : slices_IndexFunc_L_api_Instance_api_Instance__L1 p1 k2 x5 = some q3 := H
  unfold slices_IndexFunc_L_api_Instance_api_Instance__L1 at H
  refine awp_seq ?_
  refine awp_plain hN rfl ?_
  refine seq_run0 (stp_lss rfl rfl) ?_
  refine awp_seq ?_
  refine awp_cond _ rfl (fun h => ?_) (fun h => (lt_f h6 h).elim)
  refine awp_skip ?_
  refine awp_seq ?_
  refine awp_block ?_
  refine awp_seq ?_
  refine awp_plain hN rfl ?_
  refine qd rfl ?_
  refine qe rfl ?_
  refine awp_seq ?_
  refine awp_plain hN rfl ?_
  refine qd rfl ?_
  refine qd rfl ?_
  refine qd rfl ?_
  refine seq_run0 (t_idx tyE26 (fun _ => rfl) rfl rfl h7) ?_
  refine seq_run0 (stp_loadEA tyS55 rfl (map_at h7) rfl) ?_
  obtain ⟨r8, h9, H⟩ := bnd H
  refine seq_run0 (stp_callv (hp1 x5 r8 h9) rfl ⟨.inl rfl, trivial⟩) ?_
  refine awp_cond _ rfl (fun h10 => ?_) (fun h10 => ?_)
  ·replace H := ift h10 H
   refine awp_seq ?_
   refine awp_plain hN rfl ?_
   refine qd rfl ?_
   refine qe rfl ?_
   refine awp_ret ?_
   replace H := retl H hq3
   cases H
   exact ⟨trivial, .inl rfl, trivial⟩
  ·replace H := iff_ h10 H
   refine awp_skip ?_
   refine awp_plain hN rfl ?_
   refine seq_run0 (stp_add rfl rfl (by omega)) ?_
   refine qd rfl ?_
   exact ⟨_, backl H, ⟨rfl, rfl, rfl, rfl, trivial⟩, trivial⟩
theorem k_gateref2_InstanceAt_1 (x1 : S_api_Instance) (c2 : Bs) (r : (Bool)) (H : m_gateref2_InstanceAt_1 x1 c2 = some r) : Fn Tryz.prog 66 [vagg (C_api_Instance x1), vcell [[vstr c2]] 0 0] (resOf [vbool r]) := by
 refine ⟨by kernel_rfl, pure_of (us := [vbool r]) Tryz.func66 rfl rfl rfl rfl fun X hN => ?_⟩
 unfold m_gateref2_InstanceAt_1 at H
 refine awp_seq ?_
 refine awp_plain hN rfl ?_
 refine seq_run2 (stp_boxA 1 rfl) rfl ?_
 refine qe rfl ?_
 refine awp_seq ?_
 refine awp_plain hN rfl ?_
 refine seq_run0 (stp_fldP tyF55_0 rfl) ?_
 refine seq_run1 (stp_load1 tyS9 rfl rfl) rfl ?_
 refine seq_run0 (stp_loadE1 tyS9 rfl rfl rfl) ?_
 refine seq_run0 (stp_seql rfl rfl) ?_
 refine qe rfl ?_
 refine awp_ret ?_
 cases H
 exact ⟨trivial, .inl rfl, trivial⟩
theorem k_gateref2_InstanceAt (l1 : (List S_api_Instance)) (key2 : Bs) (r : (Int)) (H : m_gateref2_InstanceAt l1 key2 = some r) : Fn Tryz.prog 40 [vlst (List.map C_api_Instance l1), vstr key2] (resOf [vint r]) := by
 refine ⟨by kernel_rfl, pure_of (us := [vint r]) Tryz.func40 rfl rfl rfl rfl fun X hN => ?_⟩
 unfold m_gateref2_InstanceAt at H
 refine awp_seq ?_
 refine awp_plain hN rfl ?_
 refine seq_run2 (stp_box1 1 rfl rfl) rfl ?_
 refine qe rfl ?_
 refine awp_seq ?_
 refine awp_frzB 1 [vstr key2] rfl rfl ?_
 refine awp_plain hN rfl ?_
 refine qd rfl ?_
 refine seq_run0 (stp_mkfn (us := [_]) ⟨rfl, trivial⟩) ?_
 obtain ⟨r3, h4, H⟩ := bnd H
 refine seq_run0 (stp_call (k_slices_IndexFunc_L_api_Instance_api_Instance_ l1 (fun (a0 : S_api_Instance) => m_gateref2_InstanceAt_1 a0 key2) 66 [vcell [[vstr key2]] 0 0] (fun a0 r h => k_gateref2_InstanceAt_1 a0 key2 r h) r3 h4) ⟨.inl rfl, .inl rfl, trivial⟩) ?_
 refine qe rfl ?_
 refine awp_ret ?_
 cases H
 exact ⟨trivial, .inl rfl, trivial⟩
theorem k_gateref2_LoadsFault (l1 : (List S_api_Instance)) (loads2 : (List S_api_Load)) (r : (Int)) (H : m_gateref2_LoadsFault l1 loads2 = some r) : Fn Tryz.prog 16 [vlst (List.map C_api_Instance l1), vlst (List.map C_api_Load loads2)] (resOf [vint r]) := by
 refine ⟨by kernel_rfl, pure_of (us := [vint r]) Tryz.func16 rfl rfl rfl rfl fun X hN => ?_⟩
 unfold m_gateref2_LoadsFault at H
 refine awp_seq ?_
 refine awp_plain hN rfl ?_
 refine qe rfl ?_
 refine awp_seq ?_
 refine awp_seq ?_
 refine awp_plain hN rfl ?_
 refine qd rfl ?_
 refine seq_run0 (t_len tyU30 rfl) ?_
 refine seq_run0 (stp_gtr rfl rfl) ?_
 refine awp_cond _ rfl (fun h3 => ?_) (fun h3 => ?_)
 ·replace H := ift h3 H
  refine awp_seq ?_
  refine awp_plain hN rfl ?_
  refine qe rfl ?_
  refine awp_ret ?_
  cases H
  exact ⟨trivial, .inl rfl, trivial⟩
 ·replace H := iff_ h3 H
  refine awp_skip ?_
  refine awp_seq ?_
  refine awp_plain hN rfl ?_
  refine qe rfl ?_
  refine awp_seq ?_
  refine awp_seq ?_
  refine awp_plain hN rfl ?_
  refine qd rfl ?_
  refine seq_run0 (t_len tyU30 rfl) ?_
  refine qd rfl ?_
  refine awp_block ?_
  obtain ⟨h7, H⟩ := gif H
  refine awp_forL (fun (k5 : Nat) (s : Bs) => [(0, .dat (vlst (List.map C_api_Instance l1))), (5, .dat (vstr s)), (11, .dat (vlst (List.map C_api_Load loads2))), (12, .dat (vint (loads2.length : Int))), (13, .dat (vint (k5 : Int)))]) (fun (k5 : Nat) (s : Bs) => []) [] H ⟨rfl, rfl, rfl, rfl, rfl, trivial⟩ trivial (fun _ _ => rfl) ?_ ?_
  ·rintro last4 H
   replace H : gateref2_LoadsFault_E1 last4 = some r := H
   unfold gateref2_LoadsFault_E1 at H
   refine awp_seq ?_
   refine awp_plain hN rfl ?_
   refine seq_run0 (stp_lss rfl rfl) ?_
   refine awp_seq ?_
   refine awp_cond _ rfl (fun h => (lt_t h).elim) (fun h => ?_)
   refine awp_exit ?_
   refine awp_seq ?_
   refine awp_plain hN rfl ?_
   refine qe rfl ?_
   refine awp_ret ?_
   cases H
   exact ⟨trivial, .inl rfl, trivial⟩
  ·rintro k5 x8 last4 q6 h9 h10 H hq6
   replace H : gateref2_LoadsFault_L1 l1 k5 x8 last4 = some q6 := H
   unfold gateref2_LoadsFault_L1 at H
   refine awp_seq ?_
   refine awp_plain hN rfl ?_
   refine seq_run0 (stp_lss rfl rfl) ?_
   refine awp_seq ?_
   refine awp_cond _ rfl (fun h => ?_) (fun h => (lt_f h9 h).elim)
   refine awp_skip ?_
   refine awp_seq ?_
   refine awp_block ?_
   refine awp_seq ?_
   refine awp_plain hN rfl ?_
   refine seq_run0 (t_idx tyE30 (fun _ => rfl) rfl rfl h10) ?_
   refine seq_run0 (stp_loadEA tyS61 rfl (map_at h10) rfl) ?_
   refine seq_run2 (stp_alloc 1 tyZ61 rfl) rfl ?_
   refine seq_run2 (stp_storeW tyS61 rfl rfl rfl rfl) rfl ?_
   refine awp_seq ?_
   refine awp_block ?_
   refine awp_seq ?_
   refine awp_plain hN rfl ?_
   refine qd rfl ?_
   refine seq_run0 (stp_fldP tyF61_0 rfl) ?_
   refine seq_run1 (stp_load1 tyS9 rfl rfl) rfl ?_
   obtain ⟨r11, h12, H⟩ := bnd H
   refine seq_run0 (stp_call (k_gateref2_InstanceAt l1 x8.Instance r11 h12) ⟨.inl rfl, .inl rfl, trivial⟩) ?_
   refine seq_run0 (stp_lss rfl rfl) ?_
   refine qe rfl ?_
   refine awp_cond _ rfl (fun h13 => ?_) (fun h13 => ?_)
   ·replace H := ift h13 H
    refine awp_seq ?_
    refine awp_plain hN rfl ?_
    refine qe rfl ?_
    refine awp_ret ?_
    replace H := retl H hq6
    cases H
    exact ⟨trivial, .inl rfl, trivial⟩
   ·replace H := iff_ h13 H
    refine awp_seq ?_
    refine awp_plain hN rfl ?_
    refine seq_run0 (stp_fldP tyF61_0 rfl) ?_
    refine seq_run1 (stp_load1 tyS9 rfl rfl) rfl ?_
    refine qd rfl ?_
    refine seq_run0 (stp_sleq rfl rfl) ?_
    refine qe rfl ?_
    refine awp_cond _ rfl (fun h14 => ?_) (fun h14 => ?_)
    ·replace H := ift h14 H
     refine awp_seq ?_
     refine awp_plain hN rfl ?_
     refine qe rfl ?_
     refine awp_ret ?_
     replace H := retl H hq6
     cases H
     exact ⟨trivial, .inl rfl, trivial⟩
    ·replace H := iff_ h14 H
     refine awp_seq ?_
     refine awp_plain hN rfl ?_
     refine seq_run0 (stp_fldP tyF61_1 rfl) ?_
     refine seq_run1 (stp_load1 tyS3 rfl rfl) rfl ?_
     obtain ⟨r15, h16, H⟩ := bnd H
     refine seq_run0 (stp_call (k_gateref2_in x8.Many 0 1000000 r15 h16) ⟨.inl rfl, .inl rfl, .inl rfl, trivial⟩) ?_
     refine seq_run0 (stp_not rfl) ?_
     refine qe rfl ?_
     refine awp_cond _ rfl (fun h17 => ?_) (fun h17 => ?_)
     ·replace H := ift h17 H
      refine awp_seq ?_
      refine awp_plain hN rfl ?_
      refine qe rfl ?_
      refine awp_ret ?_
      replace H := retl H hq6
      cases H
      exact ⟨trivial, .inl rfl, trivial⟩
     ·replace H := iff_ h17 H
      refine awp_skip ?_
      refine awp_plain hN rfl ?_
      refine seq_run0 (stp_fldP tyF61_0 rfl) ?_
      refine seq_run1 (stp_load1 tyS9 rfl rfl) rfl ?_
      refine qe rfl ?_
      refine awp_plain hN rfl ?_
      refine seq_run0 (stp_add rfl rfl (by omega)) ?_
      refine qd rfl ?_
      exact ⟨_, backl H, ⟨rfl, rfl, rfl, rfl, rfl, trivial⟩, trivial⟩
theorem k_gateref2_RoundOf (v1 : (List S_api_Instance)) (v2 : Int) (r : ((List Bs))) (H : m_gateref2_RoundOf v1 v2 = some r) : Fn Tryz.prog 18 [vlst (List.map C_api_Instance v1), vint v2] (resOf [vlst (List.map C_string r)]) := by
 refine ⟨by kernel_rfl, pure_of (us := [vlst (List.map C_string r)]) Tryz.func18 rfl rfl rfl rfl fun X hN => ?_⟩
 unfold m_gateref2_RoundOf at H
 refine awp_seq ?_
 refine awp_plain hN rfl ?_
 refine qe rfl ?_
 refine awp_seq ?_
 refine awp_plain hN rfl ?_
 refine qe rfl ?_
 refine awp_seq ?_
 refine awp_seq ?_
 refine awp_plain hN rfl ?_
 refine qd rfl ?_
 refine seq_run0 (t_len tyU26 rfl) ?_
 refine qd rfl ?_
 refine awp_block ?_
 obtain ⟨h6, H⟩ := gif H
 refine awp_forL (fun (k4 : Nat) (s : Int) => [(0, .dat (vlst (List.map C_api_Instance v1))), (1, .dat (vint v2)), (5, .dat (vint s)), (16, .dat (vlst (List.map C_api_Instance v1))), (17, .dat (vint (v1.length : Int))), (18, .dat (vint (k4 : Int)))]) (fun (k4 : Nat) (s : Int) => []) 0 H ⟨rfl, rfl, rfl, rfl, rfl, rfl, trivial⟩ trivial (fun _ _ => rfl) ?_ ?_
 ·rintro v3 H
  replace H : gateref2_RoundOf_E1 v1 v2 v3 = some r := H
  unfold gateref2_RoundOf_E1 at H
  refine awp_seq ?_
  refine awp_plain hN rfl ?_
  refine seq_run0 (stp_lss rfl rfl) ?_
  refine awp_seq ?_
  refine awp_cond _ rfl (fun h => (lt_t h).elim) (fun h => ?_)
  refine awp_exit ?_
  refine awp_seq ?_
  refine awp_plain hN rfl ?_
  refine qd rfl ?_
  refine seq_run0 (t_len tyU26 rfl) ?_
  obtain ⟨h8, H⟩ := gif H
  refine seq_run2 (t_make (C := C_int) 1 0 tyL22 tyZ3 rfl rfl rfl rfl h8 rfl) rfl ?_
  refine seq_run0 (stp_assign (.row _ _) rfl) ?_
  refine awp_seq ?_
  refine awp_plain hN rfl ?_
  refine qe rfl ?_
  refine awp_seq ?_
  refine awp_seq ?_
  refine awp_plain hN rfl ?_
  refine qd rfl ?_
  refine qd rfl ?_
  refine awp_block ?_
  refine awp_nilrow 9 2 9 1 rfl rfl rfl ?_
  obtain ⟨h13, H⟩ := gif H
  refine awp_rng (fun (k11 : Nat) (s : (List Int) × (List Bs)) => [(0, .dat (vlst (List.map C_api_Instance v1))), (5, .dat (vint v3)), (8, .row 1 s.1.length), (9, .row 2 s.2.length), (30, .dat (vint v2)), (31, .dat (vint (k11 : Int)))]) (fun (k11 : Nat) (s : (List Int) × (List Bs)) => [(1, .row 3 1 (List.map C_int s.1)), (2, .row 9 1 (List.map C_string s.2))]) ((List.replicate v1.length 0), []) H ⟨rfl, rfl, congrArg (Slot.row 1) (by simp), rfl, rfl, rfl, trivial⟩ ⟨rfl, rfl, trivial⟩ (fun _ _ => rfl) ?_ ?_
  ·rintro ⟨l9, l10⟩ H
   replace H : gateref2_RoundOf_E2 l9 l10 = some r := H
   unfold gateref2_RoundOf_E2 at H
   refine awp_seq ?_
   refine awp_plain hN rfl ?_
   refine seq_run0 (stp_lss rfl rfl) ?_
   refine awp_seq ?_
   refine awp_cond _ rfl (fun h => (lt_tI h).elim) (fun h => ?_)
   refine awp_exit ?_
   refine awp_seq ?_
   refine awp_plain hN rfl ?_
   refine seq_run0 (stp_move (.row _ _) rfl) ?_
   refine seq_run0 (stp_assign (.row _ _) rfl) ?_
   refine awp_ret ?_
   cases H
   exact ⟨trivial, t_slotv rfl rfl, trivial⟩
  ·rintro k11 ⟨l9, l10⟩ q12 h14 H hq12
   replace H : gateref2_RoundOf_L2 v1 v3 k11 l9 l10 = some q12 := H
   unfold gateref2_RoundOf_L2 at H
   refine awp_seq ?_
   refine awp_plain hN rfl ?_
   refine seq_run0 (stp_lss rfl rfl) ?_
   refine awp_seq ?_
   refine awp_cond _ rfl (fun h => ?_) (fun h => (lt_fI h14 h).elim)
   refine awp_skip ?_
   refine awp_seq ?_
   refine awp_block ?_
   refine awp_seq ?_
   refine awp_plain hN rfl ?_
   refine qd rfl ?_
   refine qe rfl ?_
   refine awp_seq ?_
   refine awp_plain hN rfl ?_
   refine qe rfl ?_
   refine qe rfl ?_
   refine awp_seq ?_
   refine awp_seq ?_
   refine awp_plain hN rfl ?_
   refine qd rfl ?_
   refine seq_run0 (t_len tyU26 rfl) ?_
   refine qd rfl ?_
   refine awp_block ?_
   obtain ⟨h19, H⟩ := gif H
   refine awp_forL (fun (k17 : Nat) (s : Int × Int) => [(0, .dat (vlst (List.map C_api_Instance v1))), (5, .dat (vint v3)), (8, .row 1 l9.length), (9, .row 2 l10.length), (10, .dat (vint (k11 : Int))), (11, .dat (vint s.1)), (12, .dat (vint s.2)), (30, .dat (vint v2)), (31, .dat (vint (k11 : Int))), (34, .dat (vlst (List.map C_api_Instance v1))), (35, .dat (vint (v1.length : Int))), (36, .dat (vint (k17 : Int)))]) (fun (k17 : Nat) (s : Int × Int) => [(1, .row 3 1 (List.map C_int l9)), (2, .row 9 1 (List.map C_string l10))]) (0, 0) H ⟨rfl, rfl, rfl, rfl, rfl, rfl, rfl, rfl, rfl, rfl, rfl, rfl, trivial⟩ ⟨rfl, rfl, trivial⟩ (fun _ _ => rfl) ?_ ?_
   ·rintro ⟨v15, v16⟩ H
    replace H : gateref2_RoundOf_E3 v1 l9 l10 v15 v16 = some q12 := H
    unfold gateref2_RoundOf_E3 at H
    refine awp_seq ?_
    refine awp_plain hN rfl ?_
    refine seq_run0 (stp_lss rfl rfl) ?_
    refine awp_seq ?_
    refine awp_cond _ rfl (fun h => (lt_t h).elim) (fun h => ?_)
    refine awp_exit ?_
    refine awp_seq ?_
    refine awp_plain hN rfl ?_
    refine seq_run0 (stp_move (.row _ _) rfl) ?_
    refine qd rfl ?_
    obtain ⟨x21, h22, H⟩ := bnd H
    refine seq_run1 (t_idxRI tyE22 rfl rfl rfl h22) rfl ?_
    refine seq_run1 (t_loadR1 tyS3 rfl rfl (at_some h22).2 rfl) rfl ?_
    refine seq_run0 (stp_wrap _ rfl rfl (.inl ⟨rfl, rfl⟩)) ?_
    refine seq_run1 (t_idxRI tyE22 rfl rfl rfl h22) rfl ?_
    refine seq_run2 (t_storeR (wr (x21 + 1)) tyS3 rfl rfl rfl rfl (at_some h22).2 rfl rfl) rfl ?_
    refine awp_plain hN rfl ?_
    refine seq_run0 (stp_move (.row _ _) rfl) ?_
    refine qd rfl ?_
    refine qd rfl ?_
    obtain ⟨x23, h24, H⟩ := bnd H
    refine seq_run0 (t_idxI tyE26 (fun _ => rfl) rfl rfl h24) ?_
    refine seq_run0 (stp_fldE tyF55_0 rfl) ?_
    refine seq_run0 (stp_loadE1 tyS9 rfl (map_at (at_some h24).2) rfl) ?_
    refine seq_run0 (stp_dat (u' := vlst (List.map C_string [x23.Key])) (stp_lit [[_]] tyL32 ⟨rfl, .inl ⟨_, rfl, rfl, rfl⟩, rfl, trivial⟩ rfl rfl) rfl) ?_
    obtain ⟨h25, H⟩ := gif H
    refine seq_run2 (t_app tyL32 (fun _ => rfl) rfl rfl rfl ⟨by simp, by first | (simp; done) | simpa using h25⟩ rfl) rfl ?_
    refine seq_run0 (stp_assign (.row _ _) rfl) ?_
    refine awp_plain hN rfl ?_
    refine seq_run0 (stp_add rfl rfl (by omega)) ?_
    refine qd rfl ?_
    exact ⟨_, backl H, ⟨rfl, rfl, congrArg (Slot.row 1) (by simp), rfl, rfl, rfl, trivial⟩, ⟨rfl, rfl, trivial⟩⟩
   ·rintro k17 x20 ⟨v15, v16⟩ q18 h26 h27 H hq18
    replace H : gateref2_RoundOf_L3 v3 l9 k11 k17 x20 v15 v16 = some q18 := H
    unfold gateref2_RoundOf_L3 at H
    refine awp_seq ?_
    refine awp_plain hN rfl ?_
    refine seq_run0 (stp_lss rfl rfl) ?_
    refine awp_seq ?_
    refine awp_cond _ rfl (fun h => ?_) (fun h => (lt_f h26 h).elim)
    refine awp_skip ?_
    refine awp_joinE (ι := Int × Int) (fun i => [(0, .dat (vlst (List.map C_api_Instance v1))), (5, .dat (vint v3)), (8, .row 1 l9.length), (9, .row 2 l10.length), (10, .dat (vint (k11 : Int))), (11, .dat (vint i.1)), (12, .dat (vint i.2)), (30, .dat (vint v2)), (31, .dat (vint (k11 : Int))), (34, .dat (vlst (List.map C_api_Instance v1))), (35, .dat (vint (v1.length : Int))), (36, .dat (vint (k17 : Int)))]) (fun i => [(1, .row 3 1 (List.map C_int l9)), (2, .row 9 1 (List.map C_string l10))]) (fun i => gateref2_RoundOf_J4 i.1 i.2 = some q18) (fun i => rfl) ?_ ?_
    ·skip
     refine awp_block ?_
     refine awp_seq ?_
     refine awp_plain hN rfl ?_
     refine qd rfl ?_
     refine seq_run0 (t_idx tyE26 (fun _ => rfl) rfl rfl h27) ?_
     refine seq_run0 (stp_loadEA tyS55 rfl (map_at h27) rfl) ?_
     refine seq_run2 (stp_alloc 3 tyZ55 rfl) rfl ?_
     refine qe rfl ?_
     refine seq_run2 (stp_storeW tyS55 rfl rfl rfl rfl) rfl ?_
     refine awp_seq ?_
     refine awp_draw mixed hN rfl rfl ?_
     refine qd rfl ?_
     refine seq_run0 (stp_add rfl rfl (by omega)) ?_
     refine seq_run0 (stp_fldP tyF55_1 rfl) ?_
     refine seq_run1 (stp_load1 tyS3 rfl rfl) rfl ?_
     refine seq_run0 (stp_wrap _ rfl rfl (.inr (.inr ⟨rfl, rfl⟩))) ?_
     refine seq_run0 (stp_move (.row _ _) rfl) ?_
     refine qd rfl ?_
     obtain ⟨x28, h29, H⟩ := bnd H
     refine seq_run1 (t_idxR tyE22 rfl rfl rfl h29) rfl ?_
     refine seq_run1 (t_loadR1 tyS3 rfl rfl h29 rfl) rfl ?_
     refine qd rfl ?_
     refine seq_run0 (stp_wrap _ rfl rfl (.inr (.inr ⟨rfl, rfl⟩))) ?_
     refine seq_run0 (stp_wrap _ rfl rfl (.inr (.inl ⟨rfl, rfl⟩))) ?_
     refine qe rfl ?_
     refine ⟨rfl, ?_⟩
     refine awp_seq ?_
     refine awp_plain hN rfl ?_
     refine qd rfl ?_
     refine seq_run0 (stp_eql rfl rfl) ?_
     refine qd rfl ?_
     refine seq_aF rfl rfl (fun hc => stp_move (.dat _) rfl) ?_
     refine seq_aF rfl rfl (fun hc => stp_move (.dat _) rfl) ?_
     refine seq_aF rfl rfl (fun hc => stp_gtr (cnd (c := (!(decide ((k17 : Int) = 0)))) hc) (cnd (c := (!(decide ((k17 : Int) = 0)))) hc)) ?_
     refine seq_run0 (stp_pick_or rfl rfl (fun hb => (cnd (c := (!(decide ((k17 : Int) = 0)))) (notI hb)))) ?_
     refine awp_cond _ rfl (fun h30 => ?_) (fun h30 => ?_)
     ·replace H := ift h30 H
      refine awp_plain hN rfl ?_
      refine qd rfl ?_
      refine qd rfl ?_
      refine qe rfl ?_
      refine qe rfl ?_
      exact ⟨((k17 : Int), wr ((wr (((k11 : Int) + 1) * x20.Weight)) - (wr (x28 * v3)))), H, ⟨rfl, rfl, rfl, rfl, rfl, rfl, rfl, rfl, rfl, rfl, rfl, rfl, trivial⟩, ⟨rfl, rfl, trivial⟩⟩
     ·replace H := iff_ h30 H
      refine awp_skip ?_
      exact ⟨(v15, v16), H, ⟨rfl, rfl, rfl, rfl, rfl, rfl, rfl, rfl, rfl, rfl, rfl, rfl, trivial⟩, ⟨rfl, rfl, trivial⟩⟩
    ·rintro ⟨v31, v32⟩ H
     replace H : gateref2_RoundOf_J4 v31 v32 = some q18 := H
     unfold gateref2_RoundOf_J4 at H
     refine awp_plain hN rfl ?_
     refine seq_run0 (stp_add rfl rfl (by omega)) ?_
     refine qd rfl ?_
     exact ⟨_, backl H, ⟨rfl, rfl, rfl, rfl, rfl, rfl, rfl, rfl, rfl, rfl, rfl, rfl, trivial⟩, ⟨rfl, rfl, trivial⟩⟩
 ·rintro k4 x7 v3 q5 h33 h34 H hq5
  replace H : gateref2_RoundOf_L1 k4 x7 v3 = some q5 := H
  unfold gateref2_RoundOf_L1 at H
  refine awp_seq ?_
  refine awp_plain hN rfl ?_
  refine seq_run0 (stp_lss rfl rfl) ?_
  refine awp_seq ?_
  refine awp_cond _ rfl (fun h => ?_) (fun h => (lt_f h33 h).elim)
  refine awp_skip ?_
  refine awp_seq ?_
  refine awp_block ?_
  refine awp_seq ?_
  refine awp_plain hN rfl ?_
  refine seq_run0 (t_idx tyE26 (fun _ => rfl) rfl rfl h34) ?_
  refine seq_run0 (stp_loadEA tyS55 rfl (map_at h34) rfl) ?_
  refine seq_run2 (stp_alloc 4 tyZ55 rfl) rfl ?_
  refine seq_run2 (stp_storeW tyS55 rfl rfl rfl rfl) rfl ?_
  refine awp_plain hN rfl ?_
  refine qd rfl ?_
  refine seq_run0 (stp_fldP tyF55_1 rfl) ?_
  refine seq_run1 (stp_load1 tyS3 rfl rfl) rfl ?_
  refine seq_run0 (stp_wrap _ rfl rfl (.inl ⟨rfl, rfl⟩)) ?_
  refine qe rfl ?_
  refine awp_plain hN rfl ?_
  refine seq_run0 (stp_add rfl rfl (by omega)) ?_
  refine qd rfl ?_
  exact ⟨_, backl H, ⟨rfl, rfl, rfl, rfl, rfl, rfl, trivial⟩, trivial⟩
theorem k_slices_Equal_L_string_string_ (s1 : (List Bs)) (s2 : (List Bs)) (r : (Bool)) (H : m_slices_Equal_L_string_string_ s1 s2 = some r) : Fn Tryz.prog 17 [vlst (List.map C_string s1), vlst (List.map C_string s2)] (resOf [vbool r]) := by
 refine ⟨by kernel_rfl, pure_of (us := [vbool r]) Tryz.func17 rfl rfl rfl rfl fun X hN => ?_⟩
 unfold m_slices_Equal_L_string_string_ at H
 refine awp_seq ?_
 refine awp_plain hN rfl ?_
 refine qe rfl ?_
 refine awp_seq ?_
 refine awp_seq ?_
 refine awp_plain hN rfl ?_
 refine qd rfl ?_
 refine seq_run0 (t_len tyU32 rfl) ?_
 refine qd rfl ?_
 refine seq_run0 (t_len tyU32 rfl) ?_
 refine seq_run0 (stp_neq rfl rfl) ?_
 refine awp_cond _ rfl (fun h3 => ?_) (fun h3 => ?_)
 ·replace H := ift h3 H
  refine awp_seq ?_
  refine awp_plain hN rfl ?_
  refine qe rfl ?_
  refine awp_ret ?_
  cases H
  exact ⟨trivial, .inl rfl, trivial⟩
 ·replace H := iff_ h3 H
  refine awp_skip ?_
  refine awp_seq ?_
  refine awp_seq ?_
  refine awp_plain hN rfl ?_
  refine qd rfl ?_
  refine seq_run0 (t_len tyU32 rfl) ?_
  refine qd rfl ?_
  refine awp_block ?_
  obtain ⟨h6, H⟩ := gif H
  refine awp_forL (fun (k4 : Nat) (s : Unit) => [(0, .dat (vlst (List.map C_string s1))), (1, .dat (vlst (List.map C_string s2))), (12, .dat (vint (s1.length : Int))), (13, .dat (vint (k4 : Int)))]) (fun (k4 : Nat) (s : Unit) => []) () H ⟨rfl, rfl, rfl, rfl, trivial⟩ trivial (fun _ _ => rfl) ?_ ?_
  ·rintro ⟨⟩ H
   replace H : slices_Equal_L_string_string__E1 = some r := H
   unfold slices_Equal_L_string_string__E1 at H
   refine awp_seq ?_
   refine awp_plain hN rfl ?_
   refine seq_run0 (stp_lss rfl rfl) ?_
   refine awp_seq ?_
   refine awp_cond _ rfl (fun h => (lt_t h).elim) (fun h => ?_)
   refine awp_exit ?_
   refine awp_seq ?_
   refine awp_plain hN rfl ?_
   refine qe rfl ?_
   refine awp_ret ?_
   cases H
   exact ⟨trivial, .inl rfl, trivial⟩
  ·rintro k4 x7 ⟨⟩ q5 h8 h9 H hq5
   replace H : slices_Equal_L_string_string__L1 s2 k4 x7 = some q5 := H
   unfold slices_Equal_L_string_string__L1 at H
   refine awp_seq ?_
   refine awp_plain hN rfl ?_
   refine seq_run0 (stp_lss rfl rfl) ?_
   refine awp_seq ?_
   refine awp_cond _ rfl (fun h => ?_) (fun h => (lt_f h8 h).elim)
   refine awp_skip ?_
   refine awp_seq ?_
   refine awp_block ?_
   refine awp_seq ?_
   refine awp_plain hN rfl ?_
   refine qd rfl ?_
   refine qe rfl ?_
   refine awp_seq ?_
   refine awp_draw mixed hN rfl rfl ?_
   refine qd rfl ?_
   refine qd rfl ?_
   refine seq_run0 (t_idx tyE32 (fun _ => rfl) rfl rfl h9) ?_
   refine seq_run0 (stp_loadE1 tyS9 rfl (map_at h9) rfl) ?_
   refine qd rfl ?_
   refine qd rfl ?_
   obtain ⟨x10, h11, H⟩ := bnd H
   refine seq_run0 (t_idx tyE32 (fun _ => rfl) rfl rfl h11) ?_
   refine seq_run0 (stp_loadE1 tyS9 rfl (map_at h11) rfl) ?_
   refine seq_run0 (stp_sneq rfl rfl) ?_
   refine ⟨rfl, ?_⟩
   refine awp_cond _ rfl (fun h12 => ?_) (fun h12 => ?_)
   ·replace H := ift h12 H
    refine awp_seq ?_
    refine awp_plain hN rfl ?_
    refine qe rfl ?_
    refine awp_ret ?_
    replace H := retl H hq5
    cases H
    exact ⟨trivial, .inl rfl, trivial⟩
   ·replace H := iff_ h12 H
    refine awp_skip ?_
    refine awp_plain hN rfl ?_
    refine seq_run0 (stp_add rfl rfl (by omega)) ?_
    refine qd rfl ?_
    exact ⟨_, backl H, ⟨rfl, rfl, rfl, rfl, trivial⟩, trivial⟩
end Go.Proofs.YtmlbmkfbleicaaaGreat
