/- Walks along the models. Printed by a program. -/
import Derived.Test.YtdajmjdjhgpaaaaDoorYrw2
namespace Go.Proofs.YtdajmjdjhgpaaaaDoor
open Go.RowKit
set_option linter.unusedVariables false
set_option maxRecDepth 20000
set_option maxHeartbeats 2000000
theorem k_gateref2_ScopesFault (l1 : (List Bs)) (r : (Int)) (H : m_gateref2_ScopesFault l1 = some r) : Fn Tryd.prog 34 [vlst (List.map C_string l1)] (resOf [vint r]) := by
 refine ⟨by kernel_rfl, pure_of (us := [vint r]) Tryd.func34 rfl rfl rfl rfl fun X hN => ?_⟩
 unfold m_gateref2_ScopesFault at H
 refine awp_seq ?_
 refine awp_plain hN rfl ?_
 refine qe rfl ?_
 refine awp_seq ?_
 refine awp_seq ?_
 refine awp_plain hN rfl ?_
 refine qd rfl ?_
 refine seq_run0 (t_len tyU63 rfl) ?_
 refine seq_run0 (stp_gtr rfl rfl) ?_
 refine awp_cond _ rfl (fun h2 => ?_) (fun h2 => ?_)
 ·replace H := ift h2 H
  refine awp_seq ?_
  refine awp_plain hN rfl ?_
  refine qe rfl ?_
  refine awp_ret ?_
  cases H
  exact ⟨trivial, .inl rfl, trivial⟩
 ·replace H := iff_ h2 H
  refine awp_skip ?_
  refine awp_seq ?_
  refine awp_seq ?_
  refine awp_plain hN rfl ?_
  refine qd rfl ?_
  refine seq_run0 (t_len tyU63 rfl) ?_
  refine qd rfl ?_
  refine awp_block ?_
  obtain ⟨h5, H⟩ := gif H
  refine awp_forL (fun (k3 : Nat) (s : Unit) => [(8, .dat (vlst (List.map C_string l1))), (9, .dat (vint (l1.length : Int))), (10, .dat (vint (k3 : Int)))]) (fun (k3 : Nat) (s : Unit) => []) () H ⟨rfl, rfl, rfl, trivial⟩ trivial (fun _ _ => rfl) ?_ ?_
  ·rintro ⟨⟩ H
   replace H : gateref2_ScopesFault_E1 = some r := H
   unfold gateref2_ScopesFault_E1 at H
   refine awp_seq ?_
   refine awp_plain hN rfl ?_
   refine seq_run0 (stp_lss rfl rfl) ?_
   refine awp_seq ?_
   refine awp_cond _ rfl (fun h => (lt_t h).elim) (fun h => ?_)
   refine awp_exit ?_
   refine awp_seq ?_
   refine awp_plain hN rfl ?_
   refine qe rfl ?_
   refine awp_ret ?_
   cases H
   exact ⟨trivial, .inl rfl, trivial⟩
  ·rintro k3 x6 ⟨⟩ q4 h7 h8 H hq4
   replace H : gateref2_ScopesFault_L1 k3 x6 = some q4 := H
   unfold gateref2_ScopesFault_L1 at H
   refine awp_seq ?_
   refine awp_plain hN rfl ?_
   refine seq_run0 (stp_lss rfl rfl) ?_
   refine awp_seq ?_
   refine awp_cond _ rfl (fun h => ?_) (fun h => (lt_f h7 h).elim)
   refine awp_skip ?_
   refine awp_seq ?_
   refine awp_block ?_
   refine awp_seq ?_
   refine awp_plain hN rfl ?_
   refine seq_run0 (t_idx tyE63 (fun _ => rfl) rfl rfl h8) ?_
   refine seq_run0 (stp_loadE1 tyS9 rfl (map_at h8) rfl) ?_
   refine qe rfl ?_
   refine awp_seq ?_
   refine awp_plain hN rfl ?_
   refine qd rfl ?_
   obtain ⟨r9, h10, H⟩ := bnd H
   refine seq_run0 (stp_call (k_gateref2_scope x6 r9 h10) ⟨.inl rfl, trivial⟩) ?_
   refine seq_run0 (stp_not rfl) ?_
   refine awp_cond _ rfl (fun h11 => ?_) (fun h11 => ?_)
   ·replace H := ift h11 H
    refine awp_seq ?_
    refine awp_plain hN rfl ?_
    refine qe rfl ?_
    refine awp_ret ?_
    replace H := retl H hq4
    cases H
    exact ⟨trivial, .inl rfl, trivial⟩
   ·replace H := iff_ h11 H
    refine awp_skip ?_
    refine awp_plain hN rfl ?_
    refine seq_run0 (stp_add rfl rfl (by omega)) ?_
    refine qd rfl ?_
    exact ⟨_, backl H, ⟨rfl, rfl, rfl, trivial⟩, trivial⟩
theorem k_gateref2_CatalogFault (v1 : S_api_Catalog) (r : (Int)) (H : m_gateref2_CatalogFault v1 = some r) : Fn Tryd.prog 10 [vagg (C_api_Catalog v1)] (resOf [vint r]) := by
 refine ⟨by kernel_rfl, pure_of (us := [vint r]) Tryd.func10 rfl rfl rfl rfl fun X hN => ?_⟩
 unfold m_gateref2_CatalogFault at H
 refine awp_seq ?_
 refine awp_plain hN rfl ?_
 refine seq_run2 (stp_boxA 1 rfl) rfl ?_
 refine qe rfl ?_
 refine awp_seq ?_
 refine awp_seq ?_
 refine awp_plain hN rfl ?_
 refine seq_run0 (stp_fldP tyF29_0 rfl) ?_
 refine seq_run1 (stp_load1 tyS26 rfl rfl) rfl ?_
 refine seq_run0 (t_len tyU26 rfl) ?_
 refine seq_run0 (stp_gtr rfl rfl) ?_
 refine awp_cond _ rfl (fun h2 => ?_) (fun h2 => ?_)
 ·replace H := ift h2 H
  refine awp_seq ?_
  refine awp_plain hN rfl ?_
  refine qe rfl ?_
  refine awp_ret ?_
  cases H
  exact ⟨trivial, .inl rfl, trivial⟩
 ·replace H := iff_ h2 H
  refine awp_skip ?_
  refine awp_seq ?_
  refine awp_plain hN rfl ?_
  refine qe rfl ?_
  refine awp_seq ?_
  refine awp_seq ?_
  refine awp_plain hN rfl ?_
  refine seq_run0 (stp_fldP tyF29_0 rfl) ?_
  refine seq_run1 (stp_load1 tyS26 rfl rfl) rfl ?_
  refine seq_run0 (t_len tyU26 rfl) ?_
  refine qd rfl ?_
  refine awp_block ?_
  obtain ⟨h6, H⟩ := gif H
  refine awp_forL (fun (k4 : Nat) (s : Bs) => [(1, .ptr 1 0), (3, .dat (vstr s)), (15, .dat (vlst (List.map C_api_Product v1.Products))), (16, .dat (vint (v1.Products.length : Int))), (17, .dat (vint (k4 : Int)))]) (fun (k4 : Nat) (s : Bs) => [(1, .box none 29 [.dat (vlst (List.map C_api_Product v1.Products)), .dat (vlst (List.map C_api_Plan v1.Plans))])]) [] H ⟨rfl, rfl, rfl, rfl, rfl, trivial⟩ ⟨rfl, trivial⟩ (fun _ _ => rfl) ?_ ?_
  ·rintro v3 H
   replace H : gateref2_CatalogFault_E1 v1 v3 = some r := H
   unfold gateref2_CatalogFault_E1 at H
   refine awp_seq ?_
   refine awp_plain hN rfl ?_
   refine seq_run0 (stp_lss rfl rfl) ?_
   refine awp_seq ?_
   refine awp_cond _ rfl (fun h => (lt_t h).elim) (fun h => ?_)
   refine awp_exit ?_
   refine awp_seq ?_
   refine awp_seq ?_
   refine awp_plain hN rfl ?_
   refine seq_run0 (stp_fldP tyF29_1 rfl) ?_
   refine seq_run1 (stp_load1 tyS27 rfl rfl) rfl ?_
   refine seq_run0 (t_len tyU27 rfl) ?_
   refine seq_run0 (stp_gtr rfl rfl) ?_
   refine awp_cond _ rfl (fun h8 => ?_) (fun h8 => ?_)
   ·replace H := ift h8 H
    refine awp_seq ?_
    refine awp_plain hN rfl ?_
    refine qe rfl ?_
    refine awp_ret ?_
    cases H
    exact ⟨trivial, .inl rfl, trivial⟩
   ·replace H := iff_ h8 H
    refine awp_skip ?_
    refine awp_seq ?_
    refine awp_plain hN rfl ?_
    refine qe rfl ?_
    refine awp_seq ?_
    refine awp_seq ?_
    refine awp_plain hN rfl ?_
    refine seq_run0 (stp_fldP tyF29_1 rfl) ?_
    refine seq_run1 (stp_load1 tyS27 rfl rfl) rfl ?_
    refine seq_run0 (t_len tyU27 rfl) ?_
    refine qd rfl ?_
    refine awp_block ?_
    obtain ⟨h12, H⟩ := gif H
    refine awp_forL (fun (k10 : Nat) (s : Bs) => [(1, .ptr 1 0), (3, .dat (vstr s)), (45, .dat (vlst (List.map C_api_Plan v1.Plans))), (46, .dat (vint (v1.Plans.length : Int))), (47, .dat (vint (k10 : Int)))]) (fun (k10 : Nat) (s : Bs) => [(1, .box none 29 [.dat (vlst (List.map C_api_Product v1.Products)), .dat (vlst (List.map C_api_Plan v1.Plans))])]) [] H ⟨rfl, rfl, rfl, rfl, rfl, trivial⟩ ⟨rfl, trivial⟩ (fun _ _ => rfl) ?_ ?_
    ·rintro v9 H
     replace H : gateref2_CatalogFault_E2 v9 = some r := H
     unfold gateref2_CatalogFault_E2 at H
     refine awp_seq ?_
     refine awp_plain hN rfl ?_
     refine seq_run0 (stp_lss rfl rfl) ?_
     refine awp_seq ?_
     refine awp_cond _ rfl (fun h => (lt_t h).elim) (fun h => ?_)
     refine awp_exit ?_
     refine awp_seq ?_
     refine awp_plain hN rfl ?_
     refine qe rfl ?_
     refine awp_ret ?_
     cases H
     exact ⟨trivial, .inl rfl, trivial⟩
    ·rintro k10 x13 v9 q11 h14 h15 H hq11
     replace H : gateref2_CatalogFault_L2 v1 k10 x13 v9 = some q11 := H
     unfold gateref2_CatalogFault_L2 at H
     refine awp_seq ?_
     refine awp_plain hN rfl ?_
     refine seq_run0 (stp_lss rfl rfl) ?_
     refine awp_seq ?_
     refine awp_cond _ rfl (fun h => ?_) (fun h => (lt_f h14 h).elim)
     refine awp_skip ?_
     refine awp_seq ?_
     refine awp_block ?_
     refine awp_seq ?_
     refine awp_plain hN rfl ?_
     refine seq_run0 (t_idx tyE27 (fun _ => rfl) rfl rfl h15) ?_
     refine seq_run0 (stp_loadEA tyS35 rfl (map_at h15) rfl) ?_
     refine seq_run2 (stp_alloc 2 tyZ35 rfl) rfl ?_
     refine seq_run2 (stp_storeW tyS35 rfl rfl rfl rfl) rfl ?_
     refine awp_seq ?_
     refine awp_block ?_
     refine awp_seq ?_
     refine awp_plain hN rfl ?_
     refine seq_run0 (stp_fldP tyF35_0 rfl) ?_
     refine seq_run1 (stp_load1 tyS9 rfl rfl) rfl ?_
     obtain ⟨r16, h17, H⟩ := bnd H
     refine seq_run0 (stp_call (k_gateref2_Key x13.Key r16 h17) ⟨.inl rfl, trivial⟩) ?_
     refine seq_run0 (stp_not rfl) ?_
     refine qe rfl ?_
     refine awp_cond _ rfl (fun h18 => ?_) (fun h18 => ?_)
     ·replace H := ift h18 H
      refine awp_seq ?_
      refine awp_plain hN rfl ?_
      refine qe rfl ?_
      refine awp_ret ?_
      replace H := retl H hq11
      cases H
      exact ⟨trivial, .inl rfl, trivial⟩
     ·replace H := iff_ h18 H
      refine awp_seq ?_
      refine awp_plain hN rfl ?_
      refine seq_run0 (stp_fldP tyF35_0 rfl) ?_
      refine seq_run1 (stp_load1 tyS9 rfl rfl) rfl ?_
      refine qd rfl ?_
      refine seq_run0 (stp_sleq rfl rfl) ?_
      refine qe rfl ?_
      refine awp_cond _ rfl (fun h19 => ?_) (fun h19 => ?_)
      ·replace H := ift h19 H
       refine awp_seq ?_
       refine awp_plain hN rfl ?_
       refine qe rfl ?_
       refine awp_ret ?_
       replace H := retl H hq11
       cases H
       exact ⟨trivial, .inl rfl, trivial⟩
      ·replace H := iff_ h19 H
       refine awp_skip ?_
       refine awp_seq ?_
       refine awp_plain hN rfl ?_
       refine seq_run0 (stp_fldP tyF35_0 rfl) ?_
       refine seq_run1 (stp_load1 tyS9 rfl rfl) rfl ?_
       refine qe rfl ?_
       refine awp_seq ?_
       refine awp_plain hN rfl ?_
       refine seq_run1 (stp_loadA tyS29 rfl rfl rfl) rfl ?_
       refine seq_run1 (stp_loadA tyS35 rfl rfl rfl) rfl ?_
       obtain ⟨r20, h21, H⟩ := bnd H
       refine seq_run0 (stp_call (k_gateref2_planFault v1 x13 r20 h21) ⟨.inl rfl, .inl rfl, trivial⟩) ?_
       refine qe rfl ?_
       refine awp_seq ?_
       refine awp_plain hN rfl ?_
       refine qd rfl ?_
       refine seq_run0 (stp_neq rfl rfl) ?_
       refine awp_cond _ rfl (fun h22 => ?_) (fun h22 => ?_)
       ·replace H := ift h22 H
        refine awp_seq ?_
        refine awp_plain hN rfl ?_
        refine qd rfl ?_
        refine qe rfl ?_
        refine awp_ret ?_
        replace H := retl H hq11
        cases H
        exact ⟨trivial, .inl rfl, trivial⟩
       ·replace H := iff_ h22 H
        refine awp_skip ?_
        refine awp_plain hN rfl ?_
        refine seq_run0 (stp_add rfl rfl (by omega)) ?_
        refine qd rfl ?_
        exact ⟨_, backl H, ⟨rfl, rfl, rfl, rfl, rfl, trivial⟩, ⟨rfl, trivial⟩⟩
  ·rintro k4 x7 v3 q5 h23 h24 H hq5
   replace H : gateref2_CatalogFault_L1 k4 x7 v3 = some q5 := H
   unfold gateref2_CatalogFault_L1 at H
   refine awp_seq ?_
   refine awp_plain hN rfl ?_
   refine seq_run0 (stp_lss rfl rfl) ?_
   refine awp_seq ?_
   refine awp_cond _ rfl (fun h => ?_) (fun h => (lt_f h23 h).elim)
   refine awp_skip ?_
   refine awp_seq ?_
   refine awp_block ?_
   refine awp_seq ?_
   refine awp_plain hN rfl ?_
   refine seq_run0 (t_idx tyE26 (fun _ => rfl) rfl rfl h24) ?_
   refine seq_run0 (stp_loadEA tyS66 rfl (map_at h24) rfl) ?_
   refine seq_run2 (stp_alloc 3 tyZ66 rfl) rfl ?_
   refine seq_run2 (stp_storeW tyS66 rfl rfl rfl rfl) rfl ?_
   refine awp_seq ?_
   refine awp_block ?_
   refine awp_seq ?_
   refine awp_plain hN rfl ?_
   refine seq_run0 (stp_fldP tyF66_0 rfl) ?_
   refine seq_run1 (stp_load1 tyS9 rfl rfl) rfl ?_
   obtain ⟨r25, h26, H⟩ := bnd H
   refine seq_run0 (stp_call (k_gateref2_Key x7.Key r25 h26) ⟨.inl rfl, trivial⟩) ?_
   refine seq_run0 (stp_not rfl) ?_
   refine qe rfl ?_
   refine awp_cond _ rfl (fun h27 => ?_) (fun h27 => ?_)
   ·replace H := ift h27 H
    refine awp_seq ?_
    refine awp_plain hN rfl ?_
    refine qe rfl ?_
    refine awp_ret ?_
    replace H := retl H hq5
    cases H
    exact ⟨trivial, .inl rfl, trivial⟩
   ·replace H := iff_ h27 H
    refine awp_seq ?_
    refine awp_plain hN rfl ?_
    refine seq_run0 (stp_fldP tyF66_0 rfl) ?_
    refine seq_run1 (stp_load1 tyS9 rfl rfl) rfl ?_
    refine qd rfl ?_
    refine seq_run0 (stp_sleq rfl rfl) ?_
    refine qe rfl ?_
    refine awp_cond _ rfl (fun h28 => ?_) (fun h28 => ?_)
    ·replace H := ift h28 H
     refine awp_seq ?_
     refine awp_plain hN rfl ?_
     refine qe rfl ?_
     refine awp_ret ?_
     replace H := retl H hq5
     cases H
     exact ⟨trivial, .inl rfl, trivial⟩
    ·replace H := iff_ h28 H
     refine awp_skip ?_
     refine awp_seq ?_
     refine awp_plain hN rfl ?_
     refine seq_run0 (stp_fldP tyF66_0 rfl) ?_
     refine seq_run1 (stp_load1 tyS9 rfl rfl) rfl ?_
     refine qe rfl ?_
     refine awp_seq ?_
     refine awp_plain hN rfl ?_
     refine seq_run0 (stp_fldP tyF66_1 rfl) ?_
     refine seq_run1 (stp_load1 tyS63 rfl rfl) rfl ?_
     obtain ⟨r29, h30, H⟩ := bnd H
     refine seq_run0 (stp_call (k_gateref2_ScopesFault x7.Scopes r29 h30) ⟨.inl rfl, trivial⟩) ?_
     refine qe rfl ?_
     refine awp_seq ?_
     refine awp_plain hN rfl ?_
     refine qd rfl ?_
     refine seq_run0 (stp_neq rfl rfl) ?_
     refine awp_cond _ rfl (fun h31 => ?_) (fun h31 => ?_)
     ·replace H := ift h31 H
      refine awp_seq ?_
      refine awp_plain hN rfl ?_
      refine qd rfl ?_
      refine qe rfl ?_
      refine awp_ret ?_
      replace H := retl H hq5
      cases H
      exact ⟨trivial, .inl rfl, trivial⟩
     ·replace H := iff_ h31 H
      refine awp_skip ?_
      refine awp_plain hN rfl ?_
      refine seq_run0 (stp_add rfl rfl (by omega)) ?_
      refine qd rfl ?_
      exact ⟨_, backl H, ⟨rfl, rfl, rfl, rfl, rfl, trivial⟩, ⟨rfl, trivial⟩⟩
theorem k_slices_IndexFunc_L_api_Plan_api_Plan_ (s1 : (List S_api_Plan)) (p1 : S_api_Plan → Option (Bool)) (fv1 : Nat) (us1 : List V) (hp1 : ∀ a0 r, p1 a0 = some r → Fn Tryd.prog fv1 ([vagg (C_api_Plan a0)] ++ us1) (resOf [vbool r])) (r : (Int)) (H : m_slices_IndexFunc_L_api_Plan_api_Plan_ s1 p1 = some r) : Fn Tryd.prog 38 [vlst (List.map C_api_Plan s1), vfn fv1 us1] (resOf [vint r]) := by
 refine ⟨by kernel_rfl, pure_of (us := [vint r]) Tryd.func38 rfl rfl rfl rfl fun X hN => ?_⟩
 unfold m_slices_IndexFunc_L_api_Plan_api_Plan_ at H
 refine awp_seq ?_
 refine awp_plain hN rfl ?_
 refine qe rfl ?_
 refine awp_seq ?_
 refine awp_seq ?_
 refine awp_plain hN rfl ?_
 refine qd rfl ?_
 refine seq_run0 (t_len tyU27 rfl) ?_
 refine qd rfl ?_
 refine awp_block ?_
 obtain ⟨h4, H⟩ := gif H
 refine awp_forL (fun (k2 : Nat) (s : Unit) => [(0, .dat (vlst (List.map C_api_Plan s1))), (1, .dat (vfn fv1 us1)), (7, .dat (vint (s1.length : Int))), (8, .dat (vint (k2 : Int)))]) (fun (k2 : Nat) (s : Unit) => []) () H ⟨rfl, rfl, rfl, rfl, trivial⟩ trivial (fun _ _ => rfl) ?_ ?_
 ·rintro ⟨⟩ H
  replace H : slices_IndexFunc_L_api_Plan_api_Plan__E1 = some r := H
  unfold slices_IndexFunc_L_api_Plan_api_Plan__E1 at H
  refine awp_seq ?_
  refine awp_plain hN rfl ?_
  refine seq_run0 (stp_lss rfl rfl) ?_
  refine awp_seq ?_
  refine awp_cond _ rfl (fun h => (lt_t h).elim) (fun h => ?_)
  refine awp_exit ?_
  refine awp_seq ?_
  refine awp_plain hN rfl ?_
  refine qe rfl ?_
  refine awp_ret ?_
  cases H
  exact ⟨trivial, .inl rfl, trivial⟩
 ·rintro k2 x5 ⟨⟩ q3 h6 h7 H hq3
  replace H : slices_IndexFunc_L_api_Plan_api_Plan__L1 p1 k2 x5 = some q3 := H
  unfold slices_IndexFunc_L_api_Plan_api_Plan__L1 at H
  refine awp_seq ?_
  refine awp_plain hN rfl ?_
  refine seq_run0 (stp_lss rfl rfl) ?_
  refine awp_seq ?_
  refine awp_cond _ rfl (fun h => ?_) (fun h => (lt_f h6 h).elim)
  refine awp_skip ?_
  refine awp_seq ?_
  refine awp_block ?_
  refine awp_seq ?_
  refine awp_plain hN rfl ?_
  refine qd rfl ?_
  refine qe rfl ?_
  refine awp_seq ?_
  refine awp_plain hN rfl ?_
  refine qd rfl ?_
  refine qd rfl ?_
  refine qd rfl ?_
  refine seq_run0 (t_idx tyE27 (fun _ => rfl) rfl rfl h7) ?_
  refine seq_run0 (stp_loadEA tyS35 rfl (map_at h7) rfl) ?_
  obtain ⟨r8, h9, H⟩ := bnd H
  refine seq_run0 (stp_callv (hp1 x5 r8 h9) rfl ⟨.inl rfl, trivial⟩) ?_
  refine awp_cond _ rfl (fun h10 => ?_) (fun h10 => ?_)
  ·replace H := ift h10 H
   refine awp_seq ?_
   refine awp_plain hN rfl ?_
   refine qd rfl ?_
   refine qe rfl ?_
   refine awp_ret ?_
   replace H := retl H hq3
   cases H
   exact ⟨trivial, .inl rfl, trivial⟩
  ·replace H := iff_ h10 H
   refine awp_skip ?_
   refine awp_plain hN rfl ?_
   refine seq_run0 (stp_add rfl rfl (by omega)) ?_
   refine qd rfl ?_
   exact ⟨_, backl H, ⟨rfl, rfl, rfl, rfl, trivial⟩, trivial⟩
theorem k_gateref2_PlanAt_1 (p1 : S_api_Plan) (c2 : Bs) (r : (Bool)) (H : m_gateref2_PlanAt_1 p1 c2 = some r) : Fn Tryd.prog 39 [vagg (C_api_Plan p1), vcell [[vstr c2]] 0 0] (resOf [vbool r]) := by
 refine ⟨by kernel_rfl, pure_of (us := [vbool r]) Tryd.func39 rfl rfl rfl rfl fun X hN => ?_⟩
 unfold m_gateref2_PlanAt_1 at H
 refine awp_seq ?_
 refine awp_plain hN rfl ?_
 refine seq_run2 (stp_boxA 1 rfl) rfl ?_
 refine qe rfl ?_
 refine awp_seq ?_
 refine awp_plain hN rfl ?_
 refine seq_run0 (stp_fldP tyF35_0 rfl) ?_
 refine seq_run1 (stp_load1 tyS9 rfl rfl) rfl ?_
 refine seq_run0 (stp_loadE1 tyS9 rfl rfl rfl) ?_
 refine seq_run0 (stp_seql rfl rfl) ?_
 refine qe rfl ?_
 refine awp_ret ?_
 cases H
 exact ⟨trivial, .inl rfl, trivial⟩
theorem k_gateref2_PlanAt (c1 : S_api_Catalog) (key2 : Bs) (r : (Int)) (H : m_gateref2_PlanAt c1 key2 = some r) : Fn Tryd.prog 12 [vagg (C_api_Catalog c1), vstr key2] (resOf [vint r]) := by
 refine ⟨by kernel_rfl, pure_of (us := [vint r]) Tryd.func12 rfl rfl rfl rfl fun X hN => ?_⟩
 unfold m_gateref2_PlanAt at H
 refine awp_seq ?_
 refine awp_plain hN rfl ?_
 refine seq_run2 (stp_boxA 1 rfl) rfl ?_
 refine seq_run2 (stp_box1 2 rfl rfl) rfl ?_
 refine qe rfl ?_
 refine awp_seq ?_
 refine awp_frzB 2 [vstr key2] rfl rfl ?_
 refine awp_plain hN rfl ?_
 refine seq_run0 (stp_fldP tyF29_1 rfl) ?_
 refine seq_run1 (stp_load1 tyS27 rfl rfl) rfl ?_
 refine seq_run0 (stp_mkfn (us := [_]) ⟨rfl, trivial⟩) ?_
 obtain ⟨r3, h4, H⟩ := bnd H
 refine seq_run0 (stp_call (k_slices_IndexFunc_L_api_Plan_api_Plan_ c1.Plans (fun (a0 : S_api_Plan) => m_gateref2_PlanAt_1 a0 key2) 39 [vcell [[vstr key2]] 0 0] (fun a0 r h => k_gateref2_PlanAt_1 a0 key2 r h) r3 h4) ⟨.inl rfl, .inl rfl, trivial⟩) ?_
 refine qe rfl ?_
 refine awp_ret ?_
 cases H
 exact ⟨trivial, .inl rfl, trivial⟩
theorem k_gatelaw2_when (is1 : Bool) (e2 : Int) (r : (Int)) (H : m_gatelaw2_when is1 e2 = some r) : Fn Tryd.prog 14 [vbool is1, vint e2] (resOf [vint r]) := by
 refine ⟨by kernel_rfl, pure_of (us := [vint r]) Tryd.func14 rfl rfl rfl rfl fun X hN => ?_⟩
 unfold m_gatelaw2_when at H
 refine awp_seq ?_
 refine awp_plain hN rfl ?_
 refine qe rfl ?_
 refine awp_seq ?_
 refine awp_seq ?_
 refine awp_plain hN rfl ?_
 refine qd rfl ?_
 refine awp_cond _ rfl (fun h3 => ?_) (fun h3 => ?_)
 ·replace H := ift h3 H
  refine awp_seq ?_
  refine awp_plain hN rfl ?_
  refine qd rfl ?_
  refine qe rfl ?_
  refine awp_ret ?_
  cases H
  exact ⟨trivial, .inl rfl, trivial⟩
 ·replace H := iff_ h3 H
  refine awp_skip ?_
  refine awp_seq ?_
  refine awp_plain hN rfl ?_
  refine qe rfl ?_
  refine awp_ret ?_
  cases H
  exact ⟨trivial, .inl rfl, trivial⟩
theorem k_gatelaw2_errs (l1 : (List Int)) (r : (Int)) (H : m_gatelaw2_errs l1 = some r) : Fn Tryd.prog 13 [vlst (List.map C_api_Errno l1)] (resOf [vint r]) := by
 refine ⟨by kernel_rfl, pure_of (us := [vint r]) Tryd.func13 rfl rfl rfl rfl fun X hN => ?_⟩
 unfold m_gatelaw2_errs at H
 refine awp_seq ?_
 refine awp_plain hN rfl ?_
 refine qe rfl ?_
 refine awp_seq ?_
 refine awp_seq ?_
 refine awp_plain hN rfl ?_
 refine qd rfl ?_
 refine seq_run0 (t_len tyU78 rfl) ?_
 refine qd rfl ?_
 refine awp_block ?_
 obtain ⟨h4, H⟩ := gif H
 refine awp_forL (fun (k2 : Nat) (s : Unit) => [(5, .dat (vlst (List.map C_api_Errno l1))), (6, .dat (vint (l1.length : Int))), (7, .dat (vint (k2 : Int)))]) (fun (k2 : Nat) (s : Unit) => []) () H ⟨rfl, rfl, rfl, trivial⟩ trivial (fun _ _ => rfl) ?_ ?_
 ·rintro ⟨⟩ H
  replace H : gatelaw2_errs_E1 = some r := H
  unfold gatelaw2_errs_E1 at H
  refine awp_seq ?_
  refine awp_plain hN rfl ?_
  refine seq_run0 (stp_lss rfl rfl) ?_
  refine awp_seq ?_
  refine awp_cond _ rfl (fun h => (lt_t h).elim) (fun h => ?_)
  refine awp_exit ?_
  refine awp_seq ?_
  refine awp_plain hN rfl ?_
  refine qe rfl ?_
  refine awp_ret ?_
  cases H
  exact ⟨trivial, .inl rfl, trivial⟩
 ·rintro k2 x5 ⟨⟩ q3 h6 h7 H hq3
  replace H : gatelaw2_errs_L1 k2 x5 = some q3 := H
  unfold gatelaw2_errs_L1 at H
  refine awp_seq ?_
  refine awp_plain hN rfl ?_
  refine seq_run0 (stp_lss rfl rfl) ?_
  refine awp_seq ?_
  refine awp_cond _ rfl (fun h => ?_) (fun h => (lt_f h6 h).elim)
  refine awp_skip ?_
  refine awp_seq ?_
  refine awp_block ?_
  refine awp_seq ?_
  refine awp_plain hN rfl ?_
  refine seq_run0 (t_idx tyE78 (fun _ => rfl) rfl rfl h7) ?_
  refine seq_run0 (stp_loadE1 tyS36 rfl (map_at h7) rfl) ?_
  refine qe rfl ?_
  refine awp_seq ?_
  refine awp_plain hN rfl ?_
  refine qd rfl ?_
  refine seq_run0 (stp_neq rfl rfl) ?_
  refine awp_cond _ rfl (fun h8 => ?_) (fun h8 => ?_)
  ·replace H := ift h8 H
   refine awp_seq ?_
   refine awp_plain hN rfl ?_
   refine qd rfl ?_
   refine qe rfl ?_
   refine awp_ret ?_
   replace H := retl H hq3
   cases H
   exact ⟨trivial, .inl rfl, trivial⟩
  ·replace H := iff_ h8 H
   refine awp_skip ?_
   refine awp_plain hN rfl ?_
   refine seq_run0 (stp_add rfl rfl (by omega)) ?_
   refine qd rfl ?_
   exact ⟨_, backl H, ⟨rfl, rfl, rfl, trivial⟩, trivial⟩
theorem k_slices_Backward_L_api_Tier_api_Tier_ (l : List S_api_Tier) : Fn Tryd.prog 41 [vlst (List.map C_api_Tier l)] (resOf [vfn 58 [vcell [[vlst (List.map C_api_Tier l)]] 0 0]]) := by
 refine ⟨by kernel_rfl, pure_of (us := [vfn 58 [vcell [[vlst (List.map C_api_Tier l)]] 0 0]]) Tryd.func41 rfl rfl rfl rfl fun X hN => ?_⟩
 refine awp_seq ?_
 refine awp_plain hN rfl ?_
 refine seq_run2 (stp_box1 1 rfl rfl) rfl ?_
 refine qe rfl ?_
 refine awp_seq ?_
 refine awp_frzB 1 [vlst (List.map C_api_Tier l)] rfl rfl ?_
 refine awp_plain hN rfl ?_
 refine seq_run0 (stp_mkfn (us := [_]) ⟨rfl, trivial⟩) ?_
 refine qe rfl ?_
 refine awp_ret ?_
 exact ⟨trivial, .inl rfl, trivial⟩
theorem it_slices_Backward_L_api_Tier_api_Tier_ : BackIt Tryd.prog 58 2 false := by
 intro vals M l cap J Jx W hn hvn hk hc hY h0
 have hnt : Tryd.f58.ntmps = 19 := rfl
 refine callsIn_of_wp Tryd.func58 rfl trivial ?_ rfl
 rw [hnt]
 obtain ⟨vc, hvc⟩ : ∃ vc : V, vc = vand (vcell [[vlst (vals.map fun c => c.map vval)]] 0 0) cap := ⟨_, rfl⟩
 have hwk : Wk vc (vcell [[vlst (vals.map fun c => c.map vval)]] 0 0) := by rw [hvc]; exact wk_and _ _
 have hvm : ∀ W', (vcell [[vlst (vals.map fun c => c.map vval)]] 0 0).p W' M cap → vc.p W' M cap := fun W' h => by rw [hvc]; exact ⟨rfl, h⟩
 have hvo : ∀ W' M' v, vc.p W' M' v → v = cap := fun W' M' v h => by rw [hvc] at h; exact h.1
 obtain ⟨hM, hcp⟩ := hc _ _ h0
 refine wpIn_seq (wpIn_mono (run_pureA (N := 19) hM ?hN ?hD [(0, vval (yv l)), (1, vc)] ?hr (Q := fun e f => e = .normal ∧ f 0 = .dat (vval (yv l)) ∧ f 1 = .dat vc ∧ f 3 = .dat (vint ((vals.length : Int) - 1))) fun X hN => ?_) ?_)
 case hN => simp
 case hD => rfl
 case hr => exact ⟨by simp [yv, vval], by simpa using hvm _ hcp, trivial⟩
 ·refine awp_plain hN rfl ?_
  refine seq_run0 (stp_loadE1W tyS33 rfl hwk rfl rfl) ?_
  refine seq_run0 (t_len (C := fun c : List Value => c.map vval) tyU33 rfl) ?_
  refine seq_run0 (stp_sub rfl rfl (by omega)) ?_
  refine qe rfl ?_
  exact ⟨rfl, rfl, rfl, rfl⟩
 rintro e a W1 ⟨hk1, hN, hD, f, own, g, M', hfr, rfl, e0, e1, e3⟩
 have t0 : a.tmps.getD 0 undef = yv l := by have := hfr 0; rw [e0] at this; exact this
 have t1 : a.tmps.getD 1 undef = cap := by have := hfr 1; rw [e1] at this; exact hvo _ _ _ this
 have t3 : a.tmps.getD 3 undef = .int .i64 ((vals.length : Int) - 1) := by have := hfr 3; rw [e3] at this; exact this
 refine wpIn_block (wpIn_loop_rounds (vals.length + 1) ?_)
 have hJ1 := hk _ _ _ h0 hk1
 clear hk1 hfr e0 e1 e3 hcp hM h0
 suffices key : ∀ m, m ≤ vals.length → ∀ a W, a.tmps.size = 19 → a.defers = [] → a.tmps.getD 0 undef = yv l → a.tmps.getD 1 undef = cap → a.tmps.getD 3 undef = .int .i64 ((m : Int) - 1) → J m W → Code.roundsIn Fence.wide 0 Tryd.prog _ _ (m + 1) a W from key _ (Nat.le_refl _) a W1 hN hD t0 t1 t3 hJ1
 clear t0 t1 t3 hN hD hJ1
 intro m
 induction m with
 | zero =>
  intro _ a W hN hD t0 t1 t3 hJ
  obtain ⟨hM, hcp⟩ := hc _ _ hJ
  rw [roundsIn_succ]
  refine wpIn_seq (wpIn_seq (wpIn_mono (run_pureA (N := 19) hM hN hD [(3, vint (-1))] ⟨by rw [t3]; rfl, trivial⟩ (Q := fun e f => e = .normal ∧ f 8 = .dat (vbool (decide ((0 : Int) ≤ -1)))) fun X hN => ?_) ?_))
  ·refine awp_plain hN rfl ?_
   refine qd rfl ?_
   refine seq_run0 (stp_geq rfl rfl) ?_
   exact ⟨rfl, rfl⟩
  rintro e a' W' ⟨hk1, hN', hD', f, own, g, M', hfr, rfl, e8⟩
  have t8 : a'.tmps.getD 8 undef = .bool false := by have := hfr 8; rw [e8] at this; exact this
  exact wpIn_cond_false t8 (wpIn_exit ⟨hD', _, results_none rfl _ _ _, ⟨_, rfl⟩, .inl (hk _ _ _ hJ hk1)⟩)
 | succ m ih =>
  intro hm a W hN hD t0 t1 t3 hJ
  obtain ⟨hM, hcp⟩ := hc _ _ hJ
  have hm3 : (((m + 1 : Nat) : Int) - 1) = (m : Int) := by omega
  rw [hm3] at t3
  rw [roundsIn_succ]
  refine wpIn_seq (wpIn_seq (wpIn_mono (run_pureA (N := 19) hM hN hD [(0, vval (yv l)), (1, vc), (3, vint (m : Int))] ⟨t0, by rw [t1]; exact hvm _ hcp, by rw [t3]; rfl, trivial⟩ (Q := fun e f => e = .normal ∧ f 0 = .dat (vval (yv l)) ∧ f 1 = .dat vc ∧ f 3 = .dat (vint (m : Int)) ∧ f 8 = .dat (vbool (decide ((0 : Int) ≤ (m : Int))))) fun X hN => ?_) ?_))
  ·refine awp_plain hN rfl ?_
   refine qd rfl ?_
   refine seq_run0 (stp_geq rfl rfl) ?_
   exact ⟨rfl, rfl, rfl, rfl, rfl⟩
  rintro e a1 W1 ⟨hk1, hN1, hD1, f, own, g, M', hfr, rfl, e0, e1, e3, e8⟩
  have u0 : a1.tmps.getD 0 undef = yv l := by have := hfr 0; rw [e0] at this; exact this
  have u1 : a1.tmps.getD 1 undef = cap := by have := hfr 1; rw [e1] at this; exact hvo _ _ _ this
  have u3 : a1.tmps.getD 3 undef = .int .i64 (m : Int) := by have := hfr 3; rw [e3] at this; exact this
  have u8 : a1.tmps.getD 8 undef = .bool true := by
   have := hfr 8; rw [e8, decide_eq_true (by omega)] at this; exact this
  refine wpIn_cond_true u8 (wpIn_skip ?_)
  have hJ1 := hk _ _ _ hJ hk1
  clear hfr e0 e1 e3 e8 hk1 hJ hM hcp t0 t1 t3 hN hD
  obtain ⟨hM1, hcp1⟩ := hc _ _ hJ1
  refine wpIn_seq (wpIn_block (wpIn_seq ?_))
  refine wpIn_region ?_
  obtain ⟨X, hX⟩ : ∃ X : Ctx, X = ⟨fun b => M b, W1, [], 19, none, []⟩ := ⟨_, rfl⟩
  have hrel : Rel X (frs (datL [(0, vval (yv l)), (1, vc), (3, vint (m : Int))])) (fun _ => none) ⟨fun _ => none, fun _ _ => none⟩ a1 W1 := by
   subst hX
   have he : Ext M (Mof ⟨fun b => M b, W1, [], 19, none, []⟩ ⟨fun _ => none, fun _ _ => none⟩ (fun _ => none)) W1 W1 := ⟨Nat.le_refl _, fun _ _ _ _ => rfl, fun b _ hb => by
    rcases hb with hb | ⟨id, o, ho, _⟩
    ·exact hb
    ·cases ho⟩
   refine ⟨Kp.refl _ _, ⟨fun b hb => ⟨hM1.1 b hb, by simp⟩, hM1.2.1, fun b hb => ⟨hM1.2.2 b hb, by simp⟩⟩, hN1, hD1, fun t => rep_at [(0, vval (yv l)), (1, vc), (3, vint (m : Int))] ⟨u0, by rw [u1]; exact vc.keep he (hvm _ hcp1), by rw [u3]; rfl, trivial⟩ t, fun id o ho => (by cases ho), fun id _ o _ b ho => (by cases ho), fun id o b ho => (by cases ho), fun id _ => ⟨rfl, fun _ => rfl⟩, fun id e size es h => (by cases h)⟩
  have hNX : X.N = 19 := by rw [hX]
  have hRX : X.R = none := by rw [hX]
  have hDX : X.D = [] := by rw [hX]
  have hKX : ∀ W', Kp X.S0 X.w0 W' → Kp [] W1 W' := fun W' h => by rw [hX] at h; exact h
  obtain ⟨el, hel⟩ : ∃ el, vals[m]? = some el := ⟨_, List.getElem?_eq_getElem (by omega)⟩
  have hell : (el.map vval).length = 2 := by rw [List.length_map]; exact hvn el (List.mem_of_getElem? hel)
  have helm : (vals.map fun c => c.map vval)[m]? = some (el.map vval) := by rw [List.getElem?_map, hel]; rfl
  have helD : vals.getD m [] = el := by rw [List.getD_eq_getElem?_getD, hel]; rfl
  clear hX
  refine opsR hRX (n := 6 + 2) rfl ?_
  refine seqA_pre (P := Tryd.prog) (X := X) (by rw [hNX]; rfl) [_, _, _, _, _, _] [_, _] 0 _ _ [] _ a1 W1 rfl hrel ?_
  refine qd rfl ?_
  refine qd rfl ?_
  refine seq_run0 (stp_loadE1W tyS33 rfl hwk rfl rfl) ?_
  refine qd rfl ?_
  refine seq_run0 (stp_idxE (k := m) tyE33 rfl rfl (by rw [List.length_map]; omega) (fun c hc => by
   obtain ⟨c', hc', rfl⟩ := List.mem_map.1 hc
   rw [List.length_map]; exact hvn c' hc')) ?_
  refine seq_run0 (stp_loadEA tyS62 rfl helm hell) ?_
  intro g2 a2 W2 k2
  have v0 : a2.tmps.getD 0 undef = yv l := k2.fr 0
  have v1 : a2.tmps.getD 1 undef = cap := hvo _ _ _ (k2.fr 1)
  have v3 : a2.tmps.getD 3 undef = .int .i64 (m : Int) := k2.fr 3
  have v11 : a2.tmps.getD 11 undef = yv l := k2.fr 11
  have v12 : a2.tmps.getD 12 undef = .int .i64 (m : Int) := k2.fr 12
  have v16 : a2.tmps.getD 16 undef = .agg el.toArray := by
   obtain ⟨lv, h1, h2, h3⟩ : (vagg (el.map vval)).p W2 _ (a2.tmps.getD 16 undef) := k2.fr 16
   rw [h1]
   have : lv = el := by
    apply List.ext_getElem?
    intro j
    rcases Nat.lt_or_ge j el.length with hj | hj
    ·obtain ⟨y, p1, p2, _⟩ := h3 j (vval el[j]) (by rw [List.getElem?_map, List.getElem?_eq_getElem hj]; rfl)
     rw [p1, List.getElem?_eq_getElem hj]; exact congrArg some p2
    ·rw [List.getElem?_eq_none hj, List.getElem?_eq_none (by rw [List.length_map] at h2; omega)]
   rw [this]
  have hN2 : a2.tmps.size = 19 := k2.n.trans hNX
  have hD2 : a2.defers = [] := k2.df.trans hDX
  have hJ2 := hk _ _ _ hJ1 (hKX _ k2.kp)
  clear k2 hrel
  obtain ⟨fn, tm, asg, bdy, hrun, hR⟩ := hY m W2 (by omega) hJ2
  rw [helD] at hrun
  change (Instr.yield l #[.int .i64 (m : Int), .agg el.toArray]).run Tryd.prog W2 = _ at hrun
  rw [hRX]
  show wpOpsIn Fence.wide 0 Tryd.prog _ _ [6, 7] a2 W2
  refine wpOps_yield rfl rfl rfl v11 (by simp [Act.eval, v12, v16]) hrun (hR.mono ?_)
  rintro e W3 (⟨rfl, hJ3⟩ | ⟨rfl, hJ3⟩)
  ·obtain ⟨hM3, hcp3⟩ := hc _ _ hJ3
   refine ⟨_, rfl, ?_⟩
   obtain ⟨a3, ha3⟩ : ∃ a3 : Act, a3 = a2.put (some 17) (.bool true) := ⟨_, rfl⟩
   have hN3 : a3.tmps.size = 19 := by rw [ha3]; simpa [Act.put] using hN2
   have hD3 : a3.defers = [] := by rw [ha3]; exact hD2
   have g3 : ∀ t, a3.tmps.getD t undef = if t = 17 then .bool true else a2.tmps.getD t undef := fun t => by rw [ha3]; exact arr_put hN2 (by decide) t
   show wpOpsIn Fence.wide 0 Tryd.prog _ _ (List.range' 7 1) (a2.put (some 17) (.bool true)) W3
   rw [← ha3]
   refine opsT (N := 19) (i := 7) (os := [_]) hM3 hN3 hD3 [(0, vval (yv l)), (1, vc), (3, vint (m : Int)), (17, vbool true)] ⟨?_, ?_, ?_, ?_, trivial⟩ (Q' := fun f => f 0 = .dat (vval (yv l)) ∧ f 1 = .dat vc ∧ f 3 = .dat (vint (m : Int)) ∧ f 18 = .dat (vbool (!true))) rfl rfl (fun _ _ => ?_) ?_
   ·show _ = _
    rw [g3, if_neg (by decide)]; exact v0
   ·rw [g3, if_neg (by decide), v1]; exact hvm _ hcp3
   ·show _ = _
    rw [g3, if_neg (by decide)]; exact v3
   ·show _ = _
    rw [g3, if_pos rfl]
   ·refine seq_run0 (stp_not rfl) ?_
    exact ⟨rfl, rfl, rfl, rfl⟩
   intro a4 W4 hk4 hN4 hD4 f g M' hfr ⟨e0, e1, e3, e18⟩
   have z0 : a4.tmps.getD 0 undef = yv l := by have := hfr 0; rw [e0] at this; exact this
   have z1 : a4.tmps.getD 1 undef = cap := by have := hfr 1; rw [e1] at this; exact hvo _ _ _ this
   have z3 : a4.tmps.getD 3 undef = .int .i64 (m : Int) := by have := hfr 3; rw [e3] at this; exact this
   have z18 : a4.tmps.getD 18 undef = .bool false := by have := hfr 18; rw [e18] at this; exact this
   refine wpIn_cond_false z18 (wpIn_skip ?_)
   have hJ4 := hk _ _ _ hJ3 hk4
   obtain ⟨hM4, hcp4⟩ := hc _ _ hJ4
   refine wpIn_mono (run_pureA (N := 19) hM4 hN4 hD4 [(0, vval (yv l)), (1, vc), (3, vint (m : Int))] ⟨z0, by rw [z1]; exact hvm _ hcp4, by rw [z3]; rfl, trivial⟩ (Q := fun e f => e = .normal ∧ f 0 = .dat (vval (yv l)) ∧ f 1 = .dat vc ∧ f 3 = .dat (vint ((m : Int) - 1))) fun X hN => ?_) ?_
   ·refine awp_plain hN rfl ?_
    refine qd rfl ?_
    refine seq_run0 (stp_sub rfl rfl (by omega)) ?_
    refine qe rfl ?_
    exact ⟨rfl, rfl, rfl, rfl⟩
   rintro e a5 W5 ⟨hk5, hN5, hD5, f5, own5, g5, M5, hfr5, rfl, e0, e1, e3⟩
   exact ih (by omega) a5 W5 hN5 hD5 (by have := hfr5 0; rw [e0] at this; exact this) (by have := hfr5 1; rw [e1] at this; exact hvo _ _ _ this) (by have := hfr5 3; rw [e3] at this; exact this) (hk _ _ _ hJ4 hk5)
  ·refine ⟨_, rfl, ?_⟩
   obtain ⟨a3, ha3⟩ : ∃ a3 : Act, a3 = a2.put (some 17) (.bool false) := ⟨_, rfl⟩
   show wpOpsIn Fence.wide 0 Tryd.prog _ _ [7] (a2.put (some 17) (.bool false)) W3
   rw [← ha3]
   have g3 : ∀ t, a3.tmps.getD t undef = if t = 17 then .bool false else a2.tmps.getD t undef := fun t => by rw [ha3]; exact arr_put hN2 (by decide) t
   have hN3 : a3.tmps.size = 19 := by rw [ha3]; simpa [Act.put] using hN2
   have hD3 : a3.defers = [] := by rw [ha3]; exact hD2
   have v17 : a3.tmps.getD 17 undef = .bool false := by rw [g3, if_pos rfl]
   rw [wpOpsIn_cons]
   unfold wpOpIn
   refine ⟨fun _ _ => trivial, ?_⟩
   have hrun : ∀ o : Oper, o.op = .unOp .not 4 (.tmp 17) → (o.semAt Fence.wide.round a3.eval).run Tryd.prog W3 = .ok (.value (.bool true)) W3 := fun o ho => by
    rw [Oper.semAt_eq Fence.wide.round a3.eval o (fun c hc => by rw [ho] at hc; cases hc)]
    have h1 : a3.eval (.tmp 17) = .bool false := v17
    simp only [execOp, ho, h1, Op.unary]
    rfl
   rw [hrun _ rfl, Oper.uponIn_value]
   have t18 : (a3.put (some 18) (.bool true)).tmps.getD 18 undef = .bool true := by rw [show (a3.put (some 18) (.bool true)).tmps = a3.tmps.setIfInBounds 18 (.bool true) from rfl, arr_put hN3 (by decide), if_pos rfl]
   exact wpIn_cond_true t18 (wpIn_ret ⟨hD3, _, results_none rfl _ _ _, ⟨_, rfl⟩, .inr hJ3⟩)

theorem k_gateref2_PriceOf (p1 : S_api_Plan) (calls2 : Int) (r : (Int)) (H : m_gateref2_PriceOf p1 calls2 = some r) : Fn Tryd.prog 16 [vagg (C_api_Plan p1), vint calls2] (resOf [vint r]) := by
 refine ⟨by kernel_rfl, pure_ofF (us := [vint r]) Tryd.func16 rfl rfl rfl rfl fun X hN hR => ?_⟩
 unfold m_gateref2_PriceOf at H
 refine awpf_seq hR ?_
 refine awp_plain hN rfl ?_
 refine seq_run2 (stp_boxA 1 rfl) rfl ?_
 refine qe rfl ?_
 refine awpf_seq hR ?_
 refine awp_plain hN rfl ?_
 refine qd rfl ?_
 refine seq_run0 (stp_fldP tyF35_3 rfl) ?_
 refine seq_run1 (stp_load1 tyS3 rfl rfl) rfl ?_
 refine seq_run0 (stp_wrap _ rfl rfl (.inr (.inl ⟨rfl, rfl⟩))) ?_
 refine seq_run0 (stp_max rfl rfl) ?_
 refine seq_run2 (stp_alloc 2 tyZ3 rfl) rfl ?_
 refine seq_run2 (stp_alloc 3 tyZ3 rfl) rfl ?_
 refine seq_run2 (stp_store1 tyS3 rfl rfl rfl rfl) rfl ?_
 refine seq_run2 (stp_store1 tyS3 rfl rfl rfl rfl) rfl ?_
 refine awpf_range hR ?_
 refine awp_plain hN rfl ?_
 refine seq_run0 (stp_fldP tyF35_4 rfl) ?_
 refine seq_run1 (stp_load1 tyS33 rfl rfl) rfl ?_
 refine seq_run0 (stp_call (k_slices_Backward_L_api_Tier_api_Tier_ p1.Tiers) ⟨.inl rfl, trivial⟩) ?_
 refine ⟨rfl, ?_⟩
 obtain ⟨h6, H⟩ := gif H
 refine rangeP (s0 := ((max 0 (wr (calls2 - p1.Free))), 0)) hR hN [(4, .dat (vint 0)), (5, .ptr 2 0), (6, .ptr 3 0), (16, .dat (vfn 58 [vcell [[vlst (List.map C_api_Tier p1.Tiers)]] 0 0]))] [(1, .box none 35 [.dat (vstr p1.Key), .dat (vstr p1.Product), .dat (vint p1.Base), .dat (vint p1.Free), .dat (vlst (List.map C_api_Tier p1.Tiers)), .dat (vint p1.Limit), .dat (vint p1.Trial), .dat (vbool p1.Asked)]), (2, .box none 3 [.dat (vint (max 0 (wr (calls2 - p1.Free))))]), (3, .box none 3 [.dat (vint 0)])] (fun (s : Int × Int) => [(1, .box none 35 [.dat (vstr p1.Key), .dat (vstr p1.Product), .dat (vint p1.Base), .dat (vint p1.Free), .dat (vlst (List.map C_api_Tier p1.Tiers)), .dat (vint p1.Limit), .dat (vint p1.Trial), .dat (vbool p1.Asked)]), (2, .box none 3 [.dat (vint s.1)]), (3, .box none 3 [.dat (vint s.2)])]) it_slices_Backward_L_api_Tier_api_Tier_ (fun _ => rfl) (enters_of Tryd.func58 (by kernel_rfl) rfl) rfl h6 H ⟨rfl, rfl, rfl, rfl, trivial⟩ ⟨rfl, rfl, rfl, trivial⟩ rfl rfl (fun _ => rfl) (fun _ => rfl) (fun _ _ => rfl) (fun _ _ => rfl) (fun _ => rfl) (fun _ => rfl) (by decide) (by decide) ?_ ?_
 ·rintro A X k7 x8 ⟨c3, c4⟩ q5 hN h9 h10 H hq5
  replace H : gateref2_PriceOf_L1 k7 x8 c3 c4 = some q5 := H
  unfold gateref2_PriceOf_L1 at H
  refine awp_plain hN rfl ?_
  refine seq_run2 (stp_alloc 4 tyZ62 rfl) rfl ?_
  refine seq_run2 (stp_storeW tyS62 rfl rfl rfl rfl) rfl ?_
  refine ⟨rfl, [(5, .ptr 2 0), (6, .ptr 3 0), (8, .ptr 4 0)], [(1, .box (some (A 1)) 35 [.dat (vstr p1.Key), .dat (vstr p1.Product), .dat (vint p1.Base), .dat (vint p1.Free), .dat (vlst (List.map C_api_Tier p1.Tiers)), .dat (vint p1.Limit), .dat (vint p1.Trial), .dat (vbool p1.Asked)]), (2, .box (some (A 2)) 3 [.dat (vint c3)]), (3, .box (some (A 3)) 3 [.dat (vint c4)]), (4, .box none 62 [.dat (vint x8.From), .dat (vint x8.Cents)])], ⟨rfl, rfl, rfl, trivial⟩, ⟨rfl, rfl, rfl, rfl, trivial⟩, rfl, rfl, rfl, fun X hN => ?_⟩
  refine awp_block ?_
  refine awp_seq ?_
  refine awp_plain hN rfl ?_
  refine seq_run1 (stp_load1 tyS3 rfl rfl) rfl ?_
  refine seq_run0 (stp_fldP tyF62_0 rfl) ?_
  refine seq_run1 (stp_load1 tyS3 rfl rfl) rfl ?_
  refine seq_run0 (stp_geq rfl rfl) ?_
  refine awp_cond _ rfl (fun h11 => ?_) (fun h11 => ?_)
  ·replace H := ift h11 H
   refine awp_seq ?_
   refine awp_plain hN rfl ?_
   refine seq_run1 (stp_load1 tyS3 rfl rfl) rfl ?_
   refine seq_run1 (stp_load1 tyS3 rfl rfl) rfl ?_
   refine seq_run0 (stp_fldP tyF62_0 rfl) ?_
   refine seq_run1 (stp_load1 tyS3 rfl rfl) rfl ?_
   refine seq_run0 (stp_wrap _ rfl rfl (.inr (.inl ⟨rfl, rfl⟩))) ?_
   refine seq_run0 (stp_wrap _ rfl rfl (.inl ⟨rfl, rfl⟩)) ?_
   refine seq_run0 (stp_fldP tyF62_1 rfl) ?_
   refine seq_run1 (stp_load1 tyS3 rfl rfl) rfl ?_
   refine seq_run0 (stp_wrap _ rfl rfl (.inr (.inr ⟨rfl, rfl⟩))) ?_
   refine seq_run0 (stp_wrap _ rfl rfl (.inl ⟨rfl, rfl⟩)) ?_
   refine seq_run2 (stp_store1 tyS3 rfl rfl rfl rfl) rfl ?_
   refine awp_plain hN rfl ?_
   refine seq_run0 (stp_fldP tyF62_0 rfl) ?_
   refine seq_run1 (stp_load1 tyS3 rfl rfl) rfl ?_
   refine seq_run0 (stp_wrap _ rfl rfl (.inr (.inl ⟨rfl, rfl⟩))) ?_
   refine seq_run2 (stp_store1 tyS3 rfl rfl rfl rfl) rfl ?_
   exact ⟨_, backl H, ⟨rfl, rfl, rfl, trivial⟩⟩
  ·replace H := iff_ h11 H
   refine awp_skip ?_
   exact ⟨_, backl H, ⟨rfl, rfl, rfl, trivial⟩⟩
 ·rintro A X ⟨c3, c4⟩ hN hR H
  replace H : gateref2_PriceOf_E1 c3 c4 = some r := H
  unfold gateref2_PriceOf_E1 at H
  refine awp_seq ?_
  refine awp_plain hN rfl ?_
  refine seq_run1 (stp_load1 tyS3 rfl rfl) rfl ?_
  obtain ⟨h12, H⟩ := gif H
  refine seq_run0 (stp_quo rfl rfl h12.1 h12.2) ?_
  refine qe rfl ?_
  refine awp_ret ?_
  cases H
  exact ⟨.inr rfl, [(4, .dat (vint (c4 / 1000)))], [], ⟨rfl, trivial⟩, trivial, rfl, rfl, ⟨.inl rfl, trivial⟩⟩
theorem k_gatelaw2_priced  (r : (Bool)) (H : m_gatelaw2_priced  = some r) : Fn Tryd.prog 17 [] (resOf [vbool r]) := by
 refine ⟨by kernel_rfl, pure_of (us := [vbool r]) Tryd.func17 rfl rfl rfl rfl fun X hN => ?_⟩
 unfold m_gatelaw2_priced at H
 refine awp_seq ?_
 refine awp_plain hN rfl ?_
 refine qe rfl ?_
 refine awp_seq ?_
 refine awp_plain hN rfl ?_
 refine seq_run0 (stp_wk (u' := vagg (C_api_Product (S_api_Product.mk [112] []))) (wk_agg (by exact ⟨wk_rfl, wk_nil, trivial⟩)) (stp_build [(0, [vstr [112]])] tyZ66 tyP66 rfl ⟨rfl, .inl ⟨_, rfl, rfl, rfl⟩, rfl, trivial⟩)) ?_
 refine seq_run0 (stp_dat (u' := vlst (List.map C_api_Product [(S_api_Product.mk [112] [])])) (stp_lit [_] tyL26 ⟨rfl, .inr rfl, rfl, trivial⟩ rfl rfl) rfl) ?_
 refine seq_run0 (stp_dat (u' := vagg (C_api_Tier (S_api_Tier.mk 1 2000))) (stp_build [(0, [vint 1]), (1, [vint 2000])] tyZ62 tyP62 rfl ⟨rfl, .inl ⟨_, rfl, rfl, rfl⟩, rfl, rfl, .inl ⟨_, rfl, rfl, rfl⟩, rfl, trivial⟩) rfl) ?_
 refine seq_run0 (stp_dat (u' := vlst (List.map C_api_Tier [(S_api_Tier.mk 1 2000)])) (stp_lit [_] tyL33 ⟨rfl, .inr rfl, rfl, trivial⟩ rfl rfl) rfl) ?_
 refine seq_run0 (stp_dat (u' := vagg (C_api_Plan (S_api_Plan.mk [113] [112] 0 0 [(S_api_Tier.mk 1 2000)] 0 0 false))) (stp_build [(0, [vstr [113]]), (1, [vstr [112]]), (4, [vlst (List.map C_api_Tier [(S_api_Tier.mk 1 2000)])])] tyZ35 tyP35 rfl ⟨rfl, .inl ⟨_, rfl, rfl, rfl⟩, rfl, rfl, .inl ⟨_, rfl, rfl, rfl⟩, rfl, rfl, .inl ⟨_, rfl, rfl, rfl⟩, rfl, trivial⟩) rfl) ?_
 refine seq_run0 (stp_dat (u' := vlst (List.map C_api_Plan [(S_api_Plan.mk [113] [112] 0 0 [(S_api_Tier.mk 1 2000)] 0 0 false)])) (stp_lit [_] tyL27 ⟨rfl, .inr rfl, rfl, trivial⟩ rfl rfl) rfl) ?_
 refine seq_run0 (stp_dat (u' := vagg (C_api_Catalog (S_api_Catalog.mk ([(S_api_Product.mk [112] [])]) ([(S_api_Plan.mk [113] [112] 0 0 [(S_api_Tier.mk 1 2000)] 0 0 false)])))) (stp_build [(0, [vlst (List.map C_api_Product ([(S_api_Product.mk [112] [])]))]), (1, [vlst (List.map C_api_Plan ([(S_api_Plan.mk [113] [112] 0 0 [(S_api_Tier.mk 1 2000)] 0 0 false)]))])] tyZ29 tyP29 rfl ⟨rfl, .inl ⟨_, rfl, rfl, rfl⟩, rfl, rfl, .inl ⟨_, rfl, rfl, rfl⟩, rfl, trivial⟩) rfl) ?_
 refine seq_run2 (stp_alloc 1 tyZ29 rfl) rfl ?_
 refine seq_run2 (stp_storeW tyS29 rfl rfl rfl rfl) rfl ?_
 refine awp_seq ?_
 refine awp_plain hN rfl ?_
 refine seq_run1 (stp_loadA tyS29 rfl rfl rfl) rfl ?_
 obtain ⟨r1, h2, H⟩ := bnd H
 refine seq_run0 (stp_call (k_portal_Price (S_api_Catalog.mk ([(S_api_Product.mk [112] [])]) ([(S_api_Plan.mk [113] [112] 0 0 [(S_api_Tier.mk 1 2000)] 0 0 false)])) [113] 3 r1 h2) ⟨.inl rfl, .inl rfl, .inl rfl, trivial⟩) ?_
 refine qd rfl ?_
 refine seq_run0 (stp_ext rfl rfl) ?_
 refine seq_run0 (stp_ext rfl rfl) ?_
 refine qe rfl ?_
 refine qe rfl ?_
 refine awp_seq ?_
 refine awp_plain hN rfl ?_
 refine qd rfl ?_
 refine seq_run0 (stp_eql rfl rfl) ?_
 refine qd rfl ?_
 refine seq_aT rfl rfl (fun hc => stp_move (.dat _) rfl) ?_
 refine seq_aT rfl rfl (fun hc => stp_eql (cnd (c := (decide (r1.2 = 0))) hc) rfl) ?_
 refine seq_run0 (stp_pick_and rfl (fun hb => (cnd (c := (decide (r1.2 = 0))) hb)) rfl) ?_
 refine qe rfl ?_
 refine awp_ret ?_
 cases H
 exact ⟨trivial, .inl rfl, trivial⟩
theorem k_gatemake_Stream_ProductKey (s1 : S_gatemake_Stream) (r : (Bs × S_gatemake_Stream)) (H : m_gatemake_Stream_ProductKey s1 = some r) : Imp Tryd.prog 18 25 (C_gatemake_Stream s1) [] (resOf [vstr r.1]) (C_gatemake_Stream r.2) := by
 refine imp_of (us := [vstr r.1]) (cs' := (C_gatemake_Stream r.2)) (by kernel_rfl) Tryd.func18 rfl rfl rfl rfl fun X bl hN => ?_
 unfold m_gatemake_Stream_ProductKey at H
 refine awp_seq ?_
 refine awp_plain hN rfl ?_
 refine qe rfl ?_
 refine awp_seq ?_
 refine awp_plain hN rfl ?_
 refine seq_run0 (stp_move (.ptr _ _) rfl) ?_
 refine seq_run0 (stp_dat (u' := vlst (List.map C_string [[115, 104, 111, 112], [115, 104, 111, 112], [115, 104, 111, 112], [109, 97, 112, 115], [110, 111, 110, 101]])) (stp_lit [[_], [_], [_], [_], [_]] tyL63 ⟨rfl, .inl ⟨_, rfl, rfl, rfl⟩, rfl, rfl, .inl ⟨_, rfl, rfl, rfl⟩, rfl, rfl, .inl ⟨_, rfl, rfl, rfl⟩, rfl, rfl, .inl ⟨_, rfl, rfl, rfl⟩, rfl, rfl, .inl ⟨_, rfl, rfl, rfl⟩, rfl, trivial⟩ rfl rfl) rfl) ?_
 obtain ⟨r2, h3, H⟩ := bnd H
 refine seq_run2 (stp_imp (k_gatemake_Stream_Some s1 ([[115, 104, 111, 112], [115, 104, 111, 112], [115, 104, 111, 112], [109, 97, 112, 115], [110, 111, 110, 101]]) r2 h3) rfl ⟨.inl rfl, trivial⟩ rfl) rfl ?_
 refine qe rfl ?_
 refine awp_ret ?_
 cases H
 exact ⟨trivial, ⟨.inl rfl, trivial⟩, rfl⟩
theorem k_portal_Cheapest (v1 : S_api_Catalog) (v2 : Bs) (v3 : Int) (r : (Bs × Int × Int)) (H : m_portal_Cheapest v1 v2 v3 = some r) : Fn Tryd.prog 19 [vagg (C_api_Catalog v1), vstr v2, vint v3] (resOf [vstr r.1, vint r.2.1, vint r.2.2]) := by
 refine ⟨by kernel_rfl, pure_of (us := [vstr r.1, vint r.2.1, vint r.2.2]) Tryd.func19 rfl rfl rfl rfl fun X hN => ?_⟩
 unfold m_portal_Cheapest at H
 refine awp_seq ?_
 refine awp_plain hN rfl ?_
 refine seq_run2 (stp_boxA 1 rfl) rfl ?_
 refine qe rfl ?_
 refine qe rfl ?_
 refine qe rfl ?_
 refine awp_seq ?_
 refine awp_seq ?_
 refine awp_plain hN rfl ?_
 refine seq_run1 (stp_loadA tyS29 rfl rfl rfl) rfl ?_
 obtain ⟨r4, h5, H⟩ := bnd H
 refine seq_run0 (stp_call (k_portal_CheckCatalog v1 r4 h5) ⟨.inl rfl, trivial⟩) ?_
 refine qe rfl ?_
 refine awp_seq ?_
 refine awp_plain hN rfl ?_
 refine qd rfl ?_
 refine seq_run0 (stp_neq rfl rfl) ?_
 refine awp_cond _ rfl (fun h6 => ?_) (fun h6 => ?_)
 ·replace H := ift h6 H
  refine awp_seq ?_
  refine awp_plain hN rfl ?_
  refine qd rfl ?_
  refine qe rfl ?_
  refine qe rfl ?_
  refine qe rfl ?_
  refine awp_ret ?_
  cases H
  exact ⟨trivial, .inl rfl, .inl rfl, .inl rfl, trivial⟩
 ·replace H := iff_ h6 H
  refine awp_skip ?_
  refine awp_seq ?_
  refine awp_seq ?_
  refine awp_plain hN rfl ?_
  refine seq_run1 (stp_loadA tyS29 rfl rfl rfl) rfl ?_
  refine qd rfl ?_
  obtain ⟨r7, h8, H⟩ := bnd H
  refine seq_run0 (stp_call (k_portal_productAt v1 v2 r7 h8) ⟨.inl rfl, .inl rfl, trivial⟩) ?_
  refine qd rfl ?_
  refine seq_run0 (stp_ext rfl rfl) ?_
  refine seq_run0 (stp_ext rfl rfl) ?_
  refine qe rfl ?_
  refine qe rfl ?_
  refine awp_seq ?_
  refine awp_plain hN rfl ?_
  refine qd rfl ?_
  refine seq_run0 (stp_not rfl) ?_
  refine awp_cond _ rfl (fun h9 => ?_) (fun h9 => ?_)
  ·replace H := ift h9 H
   refine awp_seq ?_
   refine awp_plain hN rfl ?_
   refine qe rfl ?_
   refine qe rfl ?_
   refine qe rfl ?_
   refine awp_ret ?_
   cases H
   exact ⟨trivial, .inl rfl, .inl rfl, .inl rfl, trivial⟩
  ·replace H := iff_ h9 H
   refine awp_skip ?_
   refine awp_seq ?_
   refine awp_seq ?_
   refine awp_plain hN rfl ?_
   refine qd rfl ?_
   obtain ⟨r10, h11, H⟩ := bnd H
   refine seq_run0 (stp_call (k_kit_Outside v3 0 1000000000000 r10 h11) ⟨.inl rfl, .inl rfl, .inl rfl, trivial⟩) ?_
   refine awp_cond _ rfl (fun h12 => ?_) (fun h12 => ?_)
   ·replace H := ift h12 H
    refine awp_seq ?_
    refine awp_plain hN rfl ?_
    refine qe rfl ?_
    refine qe rfl ?_
    refine qe rfl ?_
    refine awp_ret ?_
    cases H
    exact ⟨trivial, .inl rfl, .inl rfl, .inl rfl, trivial⟩
   ·replace H := iff_ h12 H
    refine awp_skip ?_
    refine awp_seq ?_
    refine awp_plain hN rfl ?_
    refine qe rfl ?_
    refine qe rfl ?_
    refine awp_seq ?_
    refine awp_seq ?_
    refine awp_plain hN rfl ?_
    refine seq_run0 (stp_fldP tyF29_1 rfl) ?_
    refine seq_run1 (stp_load1 tyS27 rfl rfl) rfl ?_
    refine seq_run0 (t_len tyU27 rfl) ?_
    refine qd rfl ?_
    refine awp_block ?_
    obtain ⟨h17, H⟩ := gif H
    refine awp_forL (fun (k15 : Nat) (s : Bs × Int) => [(1, .dat (vstr v2)), (2, .dat (vint v3)), (12, .dat (vstr s.1)), (13, .dat (vint s.2)), (33, .dat (vlst (List.map C_api_Plan v1.Plans))), (34, .dat (vint (v1.Plans.length : Int))), (35, .dat (vint (k15 : Int)))]) (fun (k15 : Nat) (s : Bs × Int) => []) ([], 0) H ⟨rfl, rfl, rfl, rfl, rfl, rfl, rfl, trivial⟩ trivial (fun _ _ => rfl) ?_ ?_
    ·rintro ⟨v13, v14⟩ H
     replace H : portal_Cheapest_E1 v13 v14 = some r := H
     unfold portal_Cheapest_E1 at H
     refine awp_seq ?_
     refine awp_plain hN rfl ?_
     refine seq_run0 (stp_lss rfl rfl) ?_
     refine awp_seq ?_
     refine awp_cond _ rfl (fun h => (lt_t h).elim) (fun h => ?_)
     refine awp_exit ?_
     refine awp_seq ?_
     refine awp_seq ?_
     refine awp_plain hN rfl ?_
     refine qd rfl ?_
     refine seq_run0 (stp_seql rfl rfl) ?_
     refine awp_cond _ rfl (fun h19 => ?_) (fun h19 => ?_)
     ·replace H := ift h19 H
      refine awp_seq ?_
      refine awp_plain hN rfl ?_
      refine qe rfl ?_
      refine qe rfl ?_
      refine qe rfl ?_
      refine awp_ret ?_
      cases H
      exact ⟨trivial, .inl rfl, .inl rfl, .inl rfl, trivial⟩
     ·replace H := iff_ h19 H
      refine awp_skip ?_
      refine awp_seq ?_
      refine awp_plain hN rfl ?_
      refine qd rfl ?_
      refine qd rfl ?_
      refine qe rfl ?_
      refine qe rfl ?_
      refine qe rfl ?_
      refine awp_ret ?_
      cases H
      exact ⟨trivial, .inl rfl, .inl rfl, .inl rfl, trivial⟩
    ·rintro k15 x18 ⟨v13, v14⟩ q16 h20 h21 H hq16
     replace H : portal_Cheapest_L1 v2 v3 k15 x18 v13 v14 = some q16 := H
     unfold portal_Cheapest_L1 at H
     refine awp_seq ?_
     refine awp_plain hN rfl ?_
     refine seq_run0 (stp_lss rfl rfl) ?_
     refine awp_seq ?_
     refine awp_cond _ rfl (fun h => ?_) (fun h => (lt_f h20 h).elim)
     refine awp_skip ?_
     refine awp_joinE (ι := Bs × Int) (fun i => [(1, .dat (vstr v2)), (2, .dat (vint v3)), (12, .dat (vstr i.1)), (13, .dat (vint i.2)), (33, .dat (vlst (List.map C_api_Plan v1.Plans))), (34, .dat (vint (v1.Plans.length : Int))), (35, .dat (vint (k15 : Int)))]) (fun i => []) (fun i => portal_Cheapest_J2 i.1 i.2 = some q16) (fun i => rfl) ?_ ?_
     ·skip
      refine awp_block ?_
      refine awp_seq ?_
      refine awp_plain hN rfl ?_
      refine seq_run0 (t_idx tyE27 (fun _ => rfl) rfl rfl h21) ?_
      refine seq_run0 (stp_loadEA tyS35 rfl (map_at h21) rfl) ?_
      refine seq_run2 (stp_alloc 2 tyZ35 rfl) rfl ?_
      refine seq_run2 (stp_storeW tyS35 rfl rfl rfl rfl) rfl ?_
      refine awp_seq ?_
      refine awp_seq ?_
      refine awp_plain hN rfl ?_
      refine seq_run0 (stp_fldP tyF35_1 rfl) ?_
      refine seq_run1 (stp_load1 tyS9 rfl rfl) rfl ?_
      refine qd rfl ?_
      refine seq_run0 (stp_sneq rfl rfl) ?_
      refine qd rfl ?_
      refine seq_aF rfl rfl (fun hc => stp_fldP tyF35_5 rfl) ?_
      refine seq_arF rfl rfl (fun hc => stp_load1 tyS3 (cnd (c := (!(decide (x18.Product ≠ v2)))) hc) rfl) rfl anti_p ?_
      refine seq_aF rfl rfl (fun hc => stp_geq (cnd (c := (!(decide (x18.Product ≠ v2)))) hc) rfl) ?_
      refine seq_aF rfl rfl (fun hc => stp_move (.dat _) (cnd (c := (!(decide (x18.Product ≠ v2)))) hc)) ?_
      refine seq_bT rfl rfl (fun hc => stp_fldP tyF35_5 rfl) ?_
      refine seq_brT rfl rfl (fun hc => stp_load1 tyS3 (cnd (c := ((!(decide (x18.Product ≠ v2))) && (decide (0 ≤ x18.Limit)))) hc) rfl) rfl anti_p ?_
      refine seq_bT rfl rfl (fun hc => stp_move (.dat _) rfl) ?_
      refine seq_bT rfl rfl (fun hc => stp_lss (cnd (c := ((!(decide (x18.Product ≠ v2))) && (decide (0 ≤ x18.Limit)))) hc) (cnd (c := ((!(decide (x18.Product ≠ v2))) && (decide (0 ≤ x18.Limit)))) hc)) ?_
      refine seq_aF rfl rfl (fun hc => stp_pick_and (cnd (c := (!(decide (x18.Product ≠ v2)))) hc) (fun hb => (cnd (c := ((!(decide (x18.Product ≠ v2))) && (decide (0 ≤ x18.Limit)))) (andI hc hb))) rfl) ?_
      refine seq_run0 (stp_pick_or rfl rfl (fun hb => (cnd (c := (!(decide (x18.Product ≠ v2)))) (notI hb)))) ?_
      refine awp_cond _ rfl (fun h22 => ?_) (fun h22 => ?_)
      ·replace H := ift h22 H
       refine awp_exit ?_
       exact ⟨(v13, v14), H, ⟨rfl, rfl, rfl, rfl, rfl, rfl, rfl, trivial⟩, trivial⟩
      ·replace H := iff_ h22 H
       refine awp_skip ?_
       refine awp_seq ?_
       refine awp_draw mixed hN rfl rfl ?_
       refine seq_run0 (stp_fldP tyF35_2 rfl) ?_
       refine seq_run1 (stp_load1 tyS3 rfl rfl) rfl ?_
       refine seq_run1 (stp_loadA tyS35 rfl rfl rfl) rfl ?_
       refine qd rfl ?_
       obtain ⟨r23, h24, H⟩ := bnd H
       refine seq_run0 (stp_call (k_portal_price x18 v3 r23 h24) ⟨.inl rfl, .inl rfl, trivial⟩) ?_
       refine seq_run0 (stp_wrap _ rfl rfl (.inl ⟨rfl, rfl⟩)) ?_
       refine qe rfl ?_
       refine ⟨rfl, ?_⟩
       refine awp_seq ?_
       refine awp_plain hN rfl ?_
       refine qd rfl ?_
       refine seq_run0 (stp_seql rfl rfl) ?_
       refine qd rfl ?_
       refine seq_aF rfl rfl (fun hc => stp_move (.dat _) rfl) ?_
       refine seq_aF rfl rfl (fun hc => stp_move (.dat _) rfl) ?_
       refine seq_aF rfl rfl (fun hc => stp_lss (cnd (c := (!(decide (v13 = [])))) hc) (cnd (c := (!(decide (v13 = [])))) hc)) ?_
       refine seq_run0 (stp_pick_or rfl rfl (fun hb => (cnd (c := (!(decide (v13 = [])))) (notI hb)))) ?_
       refine awp_cond _ rfl (fun h25 => ?_) (fun h25 => ?_)
       ·replace H := ift h25 H
        refine awp_plain hN rfl ?_
        refine seq_run0 (stp_fldP tyF35_0 rfl) ?_
        refine seq_run1 (stp_load1 tyS9 rfl rfl) rfl ?_
        refine qd rfl ?_
        refine qe rfl ?_
        refine qe rfl ?_
        exact ⟨(x18.Key, wr (x18.Base + r23)), H, ⟨rfl, rfl, rfl, rfl, rfl, rfl, rfl, trivial⟩, trivial⟩
       ·replace H := iff_ h25 H
        refine awp_skip ?_
        exact ⟨(v13, v14), H, ⟨rfl, rfl, rfl, rfl, rfl, rfl, rfl, trivial⟩, trivial⟩
     ·rintro ⟨v26, v27⟩ H
      replace H : portal_Cheapest_J2 v26 v27 = some q16 := H
      unfold portal_Cheapest_J2 at H
      refine awp_plain hN rfl ?_
      refine seq_run0 (stp_add rfl rfl (by omega)) ?_
      refine qd rfl ?_
      exact ⟨_, backl H, ⟨rfl, rfl, rfl, rfl, rfl, rfl, rfl, trivial⟩, trivial⟩
theorem k_portal_Level (c1 : S_api_Catalog) (a2 : Bs) (b3 : Bs) (most4 : Int) (r : (Int × Int)) (H : m_portal_Level c1 a2 b3 most4 = some r) : Fn Tryd.prog 20 [vagg (C_api_Catalog c1), vstr a2, vstr b3, vint most4] (resOf [vint r.1, vint r.2]) := by
 refine ⟨by kernel_rfl, pure_of (us := [vint r.1, vint r.2]) Tryd.func20 rfl rfl rfl rfl fun X hN => ?_⟩
 unfold m_portal_Level at H
 refine awp_seq ?_
 refine awp_plain hN rfl ?_
 refine seq_run2 (stp_boxA 1 rfl) rfl ?_
 refine qe rfl ?_
 refine qe rfl ?_
 refine awp_seq ?_
 refine awp_seq ?_
 refine awp_plain hN rfl ?_
 refine seq_run1 (stp_loadA tyS29 rfl rfl rfl) rfl ?_
 obtain ⟨r5, h6, H⟩ := bnd H
 refine seq_run0 (stp_call (k_portal_CheckCatalog c1 r5 h6) ⟨.inl rfl, trivial⟩) ?_
 refine qe rfl ?_
 refine awp_seq ?_
 refine awp_plain hN rfl ?_
 refine qd rfl ?_
 refine seq_run0 (stp_neq rfl rfl) ?_
 refine awp_cond _ rfl (fun h7 => ?_) (fun h7 => ?_)
 ·replace H := ift h7 H
  refine awp_seq ?_
  refine awp_plain hN rfl ?_
  refine qd rfl ?_
  refine qe rfl ?_
  refine qe rfl ?_
  refine awp_ret ?_
  cases H
  exact ⟨trivial, .inl rfl, .inl rfl, trivial⟩
 ·replace H := iff_ h7 H
  refine awp_skip ?_
  refine awp_seq ?_
  refine awp_plain hN rfl ?_
  refine seq_run1 (stp_loadA tyS29 rfl rfl rfl) rfl ?_
  refine qd rfl ?_
  obtain ⟨r8, h9, H⟩ := bnd H
  refine seq_run0 (stp_call (k_portal_planOf c1 a2 r8 h9) ⟨.inl rfl, .inl rfl, trivial⟩) ?_
  refine qd rfl ?_
  refine seq_run0 (stp_ext rfl rfl) ?_
  refine seq_run0 (stp_ext rfl rfl) ?_
  refine seq_run2 (stp_alloc 2 tyZ35 rfl) rfl ?_
  refine seq_run2 (stp_storeW tyS35 rfl rfl rfl rfl) rfl ?_
  refine qe rfl ?_
  refine awp_seq ?_
  refine awp_plain hN rfl ?_
  refine seq_run1 (stp_loadA tyS29 rfl rfl rfl) rfl ?_
  refine qd rfl ?_
  obtain ⟨r10, h11, H⟩ := bnd H
  refine seq_run0 (stp_call (k_portal_planOf c1 b3 r10 h11) ⟨.inl rfl, .inl rfl, trivial⟩) ?_
  refine qd rfl ?_
  refine seq_run0 (stp_ext rfl rfl) ?_
  refine seq_run0 (stp_ext rfl rfl) ?_
  refine seq_run2 (stp_alloc 3 tyZ35 rfl) rfl ?_
  refine seq_run2 (stp_storeW tyS35 rfl rfl rfl rfl) rfl ?_
  refine qe rfl ?_
  refine awp_seq ?_
  refine awp_seq ?_
  refine awp_plain hN rfl ?_
  refine qd rfl ?_
  refine seq_run0 (stp_not rfl) ?_
  refine qd rfl ?_
  refine seq_aF rfl rfl (fun hc => stp_move (.dat _) rfl) ?_
  refine seq_aF rfl rfl (fun hc => stp_not (cnd (c := (!(!r8.2))) hc)) ?_
  refine seq_run0 (stp_pick_or rfl rfl (fun hb => (cnd (c := (!(!r8.2))) (notI hb)))) ?_
  refine awp_cond _ rfl (fun h12 => ?_) (fun h12 => ?_)
  ·replace H := ift h12 H
   refine awp_seq ?_
   refine awp_plain hN rfl ?_
   refine qe rfl ?_
   refine qe rfl ?_
   refine awp_ret ?_
   cases H
   exact ⟨trivial, .inl rfl, .inl rfl, trivial⟩
  ·replace H := iff_ h12 H
   refine awp_skip ?_
   refine awp_seq ?_
   refine awp_seq ?_
   refine awp_plain hN rfl ?_
   refine qd rfl ?_
   obtain ⟨r13, h14, H⟩ := bnd H
   refine seq_run0 (stp_call (k_kit_Outside most4 0 100000 r13 h14) ⟨.inl rfl, .inl rfl, .inl rfl, trivial⟩) ?_
   refine awp_cond _ rfl (fun h15 => ?_) (fun h15 => ?_)
   ·replace H := ift h15 H
    refine awp_seq ?_
    refine awp_plain hN rfl ?_
    refine qe rfl ?_
    refine qe rfl ?_
    refine awp_ret ?_
    cases H
    exact ⟨trivial, .inl rfl, .inl rfl, trivial⟩
   ·replace H := iff_ h15 H
    refine awp_skip ?_
    refine awp_seq ?_
    refine awp_seq ?_
    refine awp_plain hN rfl ?_
    refine qd rfl ?_
    refine seq_run0 (stp_wrap _ rfl rfl (.inl ⟨rfl, rfl⟩)) ?_
    refine qd rfl ?_
    refine awp_block ?_
    obtain ⟨h18, H⟩ := gif H
    refine awp_rng (fun (k16 : Nat) (s : Unit) => [(11, .ptr 2 0), (13, .ptr 3 0), (42, .dat (vint (wr (most4 + 1)))), (43, .dat (vint (k16 : Int)))]) (fun (k16 : Nat) (s : Unit) => [(2, .box none 35 [.dat (vstr r8.1.Key), .dat (vstr r8.1.Product), .dat (vint r8.1.Base), .dat (vint r8.1.Free), .dat (vlst (List.map C_api_Tier r8.1.Tiers)), .dat (vint r8.1.Limit), .dat (vint r8.1.Trial), .dat (vbool r8.1.Asked)]), (3, .box none 35 [.dat (vstr r10.1.Key), .dat (vstr r10.1.Product), .dat (vint r10.1.Base), .dat (vint r10.1.Free), .dat (vlst (List.map C_api_Tier r10.1.Tiers)), .dat (vint r10.1.Limit), .dat (vint r10.1.Trial), .dat (vbool r10.1.Asked)])]) () H ⟨rfl, rfl, rfl, rfl, trivial⟩ ⟨rfl, rfl, trivial⟩ (fun _ _ => rfl) ?_ ?_
    ·rintro ⟨⟩ H
     replace H : portal_Level_E1 = some r := H
     unfold portal_Level_E1 at H
     refine awp_seq ?_
     refine awp_plain hN rfl ?_
     refine seq_run0 (stp_lss rfl rfl) ?_
     refine awp_seq ?_
     refine awp_cond _ rfl (fun h => (lt_tI h).elim) (fun h => ?_)
     refine awp_exit ?_
     refine awp_seq ?_
     refine awp_plain hN rfl ?_
     refine qe rfl ?_
     refine qe rfl ?_
     refine awp_ret ?_
     cases H
     exact ⟨trivial, .inl rfl, .inl rfl, trivial⟩
    ·rintro k16 ⟨⟩ q17 h19 H hq17
     replace H : portal_Level_L1 r8 r10 k16 = some q17 := H
     unfold portal_Level_L1 at H
     refine awp_seq ?_
     refine awp_plain hN rfl ?_
     refine seq_run0 (stp_lss rfl rfl) ?_
     refine awp_seq ?_
     refine awp_cond _ rfl (fun h => ?_) (fun h => (lt_fI h19 h).elim)
     refine awp_skip ?_
     refine awp_seq ?_
     refine awp_block ?_
     refine awp_seq ?_
     refine awp_plain hN rfl ?_
     refine qd rfl ?_
     refine qe rfl ?_
     refine awp_seq ?_
     refine awp_draw mixed hN rfl rfl ?_
     refine seq_run0 (stp_fldP tyF35_2 rfl) ?_
     refine seq_run1 (stp_load1 tyS3 rfl rfl) rfl ?_
     refine seq_run1 (stp_loadA tyS35 rfl rfl rfl) rfl ?_
     refine qd rfl ?_
     obtain ⟨r20, h21, H⟩ := bnd H
     refine seq_run0 (stp_call (k_portal_price r8.1 (k16 : Int) r20 h21) ⟨.inl rfl, .inl rfl, trivial⟩) ?_
     refine seq_run0 (stp_wrap _ rfl rfl (.inl ⟨rfl, rfl⟩)) ?_
     refine seq_run0 (stp_fldP tyF35_2 rfl) ?_
     refine seq_run1 (stp_load1 tyS3 rfl rfl) rfl ?_
     refine seq_run1 (stp_loadA tyS35 rfl rfl rfl) rfl ?_
     refine qd rfl ?_
     obtain ⟨r22, h23, H⟩ := bnd H
     refine seq_run0 (stp_call (k_portal_price r10.1 (k16 : Int) r22 h23) ⟨.inl rfl, .inl rfl, trivial⟩) ?_
     refine seq_run0 (stp_wrap _ rfl rfl (.inl ⟨rfl, rfl⟩)) ?_
     refine seq_run0 (stp_leq rfl rfl) ?_
     refine ⟨rfl, ?_⟩
     refine awp_cond _ rfl (fun h24 => ?_) (fun h24 => ?_)
     ·replace H := ift h24 H
      refine awp_seq ?_
      refine awp_plain hN rfl ?_
      refine qd rfl ?_
      refine qe rfl ?_
      refine qe rfl ?_
      refine awp_ret ?_
      replace H := retl H hq17
      cases H
      exact ⟨trivial, .inl rfl, .inl rfl, trivial⟩
     ·replace H := iff_ h24 H
      refine awp_skip ?_
      refine awp_plain hN rfl ?_
      refine seq_run0 (stp_add rfl rfl (by omega)) ?_
      refine qd rfl ?_
      exact ⟨_, backl H, ⟨rfl, rfl, rfl, rfl, trivial⟩, ⟨rfl, rfl, trivial⟩⟩
theorem k_gateref2_CheapestOf (c1 : S_api_Catalog) (product2 : Bs) (calls3 : Int) (r : (Bs × Int × Bool)) (H : m_gateref2_CheapestOf c1 product2 calls3 = some r) : Fn Tryd.prog 22 [vagg (C_api_Catalog c1), vstr product2, vint calls3] (resOf [vstr r.1, vint r.2.1, vbool r.2.2]) := by
 refine ⟨by kernel_rfl, pure_of (us := [vstr r.1, vint r.2.1, vbool r.2.2]) Tryd.func22 rfl rfl rfl rfl fun X hN => ?_⟩
 unfold m_gateref2_CheapestOf at H
 refine awp_seq ?_
 refine awp_plain hN rfl ?_
 refine seq_run2 (stp_boxA 1 rfl) rfl ?_
 refine qe rfl ?_
 refine qe rfl ?_
 refine qe rfl ?_
 refine awp_seq ?_
 refine awp_plain hN rfl ?_
 refine qe rfl ?_
 refine qe rfl ?_
 refine qe rfl ?_
 refine awp_seq ?_
 refine awp_seq ?_
 refine awp_plain hN rfl ?_
 refine seq_run0 (stp_fldP tyF29_1 rfl) ?_
 refine seq_run1 (stp_load1 tyS27 rfl rfl) rfl ?_
 refine seq_run0 (t_len tyU27 rfl) ?_
 refine qd rfl ?_
 refine awp_block ?_
 obtain ⟨h9, H⟩ := gif H
 refine awp_forL (fun (k7 : Nat) (s : Bs × Int × Bool) => [(1, .dat (vstr product2)), (2, .dat (vint calls3)), (9, .dat (vstr s.1)), (10, .dat (vint s.2.1)), (11, .dat (vbool s.2.2)), (16, .dat (vlst (List.map C_api_Plan c1.Plans))), (17, .dat (vint (c1.Plans.length : Int))), (18, .dat (vint (k7 : Int)))]) (fun (k7 : Nat) (s : Bs × Int × Bool) => []) ([], 0, false) H ⟨rfl, rfl, rfl, rfl, rfl, rfl, rfl, rfl, trivial⟩ trivial (fun _ _ => rfl) ?_ ?_
 ·rintro ⟨key4, cents5, found6⟩ H
  replace H : gateref2_CheapestOf_E1 key4 cents5 found6 = some r := H
  unfold gateref2_CheapestOf_E1 at H
  refine awp_seq ?_
  refine awp_plain hN rfl ?_
  refine seq_run0 (stp_lss rfl rfl) ?_
  refine awp_seq ?_
  refine awp_cond _ rfl (fun h => (lt_t h).elim) (fun h => ?_)
  refine awp_exit ?_
  refine awp_seq ?_
  refine awp_plain hN rfl ?_
  refine qd rfl ?_
  refine qd rfl ?_
  refine qd rfl ?_
  refine qe rfl ?_
  refine qe rfl ?_
  refine qe rfl ?_
  refine awp_ret ?_
  cases H
  exact ⟨trivial, .inl rfl, .inl rfl, .inl rfl, trivial⟩
 ·rintro k7 x10 ⟨key4, cents5, found6⟩ q8 h11 h12 H hq8
  replace H : gateref2_CheapestOf_L1 product2 calls3 k7 x10 key4 cents5 found6 = some q8 := H
  unfold gateref2_CheapestOf_L1 at H
  refine awp_seq ?_
  refine awp_plain hN rfl ?_
  refine seq_run0 (stp_lss rfl rfl) ?_
  refine awp_seq ?_
  refine awp_cond _ rfl (fun h => ?_) (fun h => (lt_f h11 h).elim)
  refine awp_skip ?_
  refine awp_joinE (ι := Bs × Int × Bool) (fun i => [(1, .dat (vstr product2)), (2, .dat (vint calls3)), (9, .dat (vstr i.1)), (10, .dat (vint i.2.1)), (11, .dat (vbool i.2.2)), (16, .dat (vlst (List.map C_api_Plan c1.Plans))), (17, .dat (vint (c1.Plans.length : Int))), (18, .dat (vint (k7 : Int)))]) (fun i => []) (fun i => gateref2_CheapestOf_J2 i.1 i.2.1 i.2.2 = some q8) (fun i => rfl) ?_ ?_
  ·skip
   refine awp_block ?_
   refine awp_seq ?_
   refine awp_plain hN rfl ?_
   refine seq_run0 (t_idx tyE27 (fun _ => rfl) rfl rfl h12) ?_
   refine seq_run0 (stp_loadEA tyS35 rfl (map_at h12) rfl) ?_
   refine seq_run2 (stp_alloc 2 tyZ35 rfl) rfl ?_
   refine seq_run2 (stp_storeW tyS35 rfl rfl rfl rfl) rfl ?_
   refine awp_seq ?_
   refine awp_draw mixed hN rfl rfl ?_
   refine seq_run0 (stp_fldP tyF35_2 rfl) ?_
   refine seq_run1 (stp_load1 tyS3 rfl rfl) rfl ?_
   refine seq_run1 (stp_loadA tyS35 rfl rfl rfl) rfl ?_
   refine qd rfl ?_
   obtain ⟨r13, h14, H⟩ := bnd H
   refine seq_run0 (stp_call (k_gateref2_PriceOf x10 calls3 r13 h14) ⟨.inl rfl, .inl rfl, trivial⟩) ?_
   refine seq_run0 (stp_wrap _ rfl rfl (.inl ⟨rfl, rfl⟩)) ?_
   refine qe rfl ?_
   refine ⟨rfl, ?_⟩
   refine awp_seq ?_
   refine awp_plain hN rfl ?_
   refine seq_run0 (stp_fldP tyF35_1 rfl) ?_
   refine seq_run1 (stp_load1 tyS9 rfl rfl) rfl ?_
   refine qd rfl ?_
   refine seq_run0 (stp_seql rfl rfl) ?_
   refine qd rfl ?_
   refine seq_aT rfl rfl (fun hc => stp_fldP tyF35_5 rfl) ?_
   refine seq_arT rfl rfl (fun hc => stp_load1 tyS3 (cnd (c := (decide (x10.Product = product2))) hc) rfl) rfl anti_p ?_
   refine seq_aT rfl rfl (fun hc => stp_lss (cnd (c := (decide (x10.Product = product2))) hc) rfl) ?_
   refine seq_aT rfl rfl (fun hc => stp_move (.dat _) (cnd (c := (decide (x10.Product = product2))) hc)) ?_
   refine seq_bF rfl rfl (fun hc => stp_fldP tyF35_5 rfl) ?_
   refine seq_brF rfl rfl (fun hc => stp_load1 tyS3 (cnd (c := ((decide (x10.Product = product2)) && !(decide (x10.Limit < 0)))) hc) rfl) rfl anti_p ?_
   refine seq_bF rfl rfl (fun hc => stp_move (.dat _) rfl) ?_
   refine seq_bF rfl rfl (fun hc => stp_geq (cnd (c := ((decide (x10.Product = product2)) && !(decide (x10.Limit < 0)))) hc) (cnd (c := ((decide (x10.Product = product2)) && !(decide (x10.Limit < 0)))) hc)) ?_
   refine seq_aT rfl rfl (fun hc => stp_pick_or (cnd (c := (decide (x10.Product = product2))) hc) rfl (fun hb => (cnd (c := ((decide (x10.Product = product2)) && !(decide (x10.Limit < 0)))) (andI hc (notI hb))))) ?_
   refine seq_run0 (stp_pick_and rfl (fun hb => (cnd (c := (decide (x10.Product = product2))) hb)) rfl) ?_
   refine qd rfl ?_
   refine seq_aT rfl rfl (fun hc => stp_move (.dat _) rfl) ?_
   refine seq_aT rfl rfl (fun hc => stp_not (cnd (c := ((decide (x10.Product = product2)) && ((decide (x10.Limit < 0)) || (decide (calls3 ≤ x10.Limit))))) hc)) ?_
   refine seq_aT rfl rfl (fun hc => stp_move (.dat _) (cnd (c := ((decide (x10.Product = product2)) && ((decide (x10.Limit < 0)) || (decide (calls3 ≤ x10.Limit))))) hc)) ?_
   refine seq_bF rfl rfl (fun hc => stp_move (.dat _) rfl) ?_
   refine seq_bF rfl rfl (fun hc => stp_move (.dat _) rfl) ?_
   refine seq_bF rfl rfl (fun hc => stp_lss (cnd (c := (((decide (x10.Product = product2)) && ((decide (x10.Limit < 0)) || (decide (calls3 ≤ x10.Limit)))) && !(!found6))) hc) (cnd (c := (((decide (x10.Product = product2)) && ((decide (x10.Limit < 0)) || (decide (calls3 ≤ x10.Limit)))) && !(!found6))) hc)) ?_
   refine seq_aT rfl rfl (fun hc => stp_pick_or (cnd (c := ((decide (x10.Product = product2)) && ((decide (x10.Limit < 0)) || (decide (calls3 ≤ x10.Limit))))) hc) rfl (fun hb => (cnd (c := (((decide (x10.Product = product2)) && ((decide (x10.Limit < 0)) || (decide (calls3 ≤ x10.Limit)))) && !(!found6))) (andI hc (notI hb))))) ?_
   refine seq_run0 (stp_pick_and rfl (fun hb => (cnd (c := ((decide (x10.Product = product2)) && ((decide (x10.Limit < 0)) || (decide (calls3 ≤ x10.Limit))))) hb)) rfl) ?_
   refine awp_cond _ rfl (fun h15 => ?_) (fun h15 => ?_)
   ·replace H := ift h15 H
    refine awp_plain hN rfl ?_
    refine seq_run0 (stp_fldP tyF35_0 rfl) ?_
    refine seq_run1 (stp_load1 tyS9 rfl rfl) rfl ?_
    refine qd rfl ?_
    refine qe rfl ?_
    refine qe rfl ?_
    refine qe rfl ?_
    exact ⟨(x10.Key, wr (x10.Base + r13), true), H, ⟨rfl, rfl, rfl, rfl, rfl, rfl, rfl, rfl, trivial⟩, trivial⟩
   ·replace H := iff_ h15 H
    refine awp_skip ?_
    exact ⟨(key4, cents5, found6), H, ⟨rfl, rfl, rfl, rfl, rfl, rfl, rfl, rfl, trivial⟩, trivial⟩
  ·rintro ⟨key16, cents17, found18⟩ H
   replace H : gateref2_CheapestOf_J2 key16 cents17 found18 = some q8 := H
   unfold gateref2_CheapestOf_J2 at H
   refine awp_plain hN rfl ?_
   refine seq_run0 (stp_add rfl rfl (by omega)) ?_
   refine qd rfl ?_
   exact ⟨_, backl H, ⟨rfl, rfl, rfl, rfl, rfl, rfl, rfl, rfl, trivial⟩, trivial⟩
theorem k_gateref2_LevelOf (a1 : S_api_Plan) (b2 : S_api_Plan) (most3 : Int) (r : (Int × Bool)) (H : m_gateref2_LevelOf a1 b2 most3 = some r) : Fn Tryd.prog 23 [vagg (C_api_Plan a1), vagg (C_api_Plan b2), vint most3] (resOf [vint r.1, vbool r.2]) := by
 refine ⟨by kernel_rfl, pure_of (us := [vint r.1, vbool r.2]) Tryd.func23 rfl rfl rfl rfl fun X hN => ?_⟩
 unfold m_gateref2_LevelOf at H
 refine awp_seq ?_
 refine awp_plain hN rfl ?_
 refine seq_run2 (stp_boxA 1 rfl) rfl ?_
 refine seq_run2 (stp_boxA 2 rfl) rfl ?_
 refine qe rfl ?_
 refine qe rfl ?_
 refine awp_seq ?_
 refine awp_seq ?_
 refine awp_plain hN rfl ?_
 refine qd rfl ?_
 refine seq_run0 (stp_wrap _ rfl rfl (.inl ⟨rfl, rfl⟩)) ?_
 refine qd rfl ?_
 refine awp_block ?_
 obtain ⟨h6, H⟩ := gif H
 refine awp_rng (fun (k4 : Nat) (s : Unit) => [(3, .ptr 1 0), (4, .ptr 2 0), (10, .dat (vint (wr (most3 + 1)))), (11, .dat (vint (k4 : Int)))]) (fun (k4 : Nat) (s : Unit) => [(1, .box none 35 [.dat (vstr a1.Key), .dat (vstr a1.Product), .dat (vint a1.Base), .dat (vint a1.Free), .dat (vlst (List.map C_api_Tier a1.Tiers)), .dat (vint a1.Limit), .dat (vint a1.Trial), .dat (vbool a1.Asked)]), (2, .box none 35 [.dat (vstr b2.Key), .dat (vstr b2.Product), .dat (vint b2.Base), .dat (vint b2.Free), .dat (vlst (List.map C_api_Tier b2.Tiers)), .dat (vint b2.Limit), .dat (vint b2.Trial), .dat (vbool b2.Asked)])]) () H ⟨rfl, rfl, rfl, rfl, trivial⟩ ⟨rfl, rfl, trivial⟩ (fun _ _ => rfl) ?_ ?_
 ·rintro ⟨⟩ H
  replace H : gateref2_LevelOf_E1 = some r := H
  unfold gateref2_LevelOf_E1 at H
  refine awp_seq ?_
  refine awp_plain hN rfl ?_
  refine seq_run0 (stp_lss rfl rfl) ?_
  refine awp_seq ?_
  refine awp_cond _ rfl (fun h => (lt_tI h).elim) (fun h => ?_)
  refine awp_exit ?_
  refine awp_seq ?_
  refine awp_plain hN rfl ?_
  refine qe rfl ?_
  refine qe rfl ?_
  refine awp_ret ?_
  cases H
  exact ⟨trivial, .inl rfl, .inl rfl, trivial⟩
 ·rintro k4 ⟨⟩ q5 h7 H hq5
  replace H : gateref2_LevelOf_L1 a1 b2 k4 = some q5 := H
  unfold gateref2_LevelOf_L1 at H
  refine awp_seq ?_
  refine awp_plain hN rfl ?_
  refine seq_run0 (stp_lss rfl rfl) ?_
  refine awp_seq ?_
  refine awp_cond _ rfl (fun h => ?_) (fun h => (lt_fI h7 h).elim)
  refine awp_skip ?_
  refine awp_seq ?_
  refine awp_block ?_
  refine awp_seq ?_
  refine awp_plain hN rfl ?_
  refine qd rfl ?_
  refine qe rfl ?_
  refine awp_seq ?_
  refine awp_draw mixed hN rfl rfl ?_
  refine seq_run0 (stp_fldP tyF35_2 rfl) ?_
  refine seq_run1 (stp_load1 tyS3 rfl rfl) rfl ?_
  refine seq_run1 (stp_loadA tyS35 rfl rfl rfl) rfl ?_
  refine qd rfl ?_
  obtain ⟨r8, h9, H⟩ := bnd H
  refine seq_run0 (stp_call (k_gateref2_PriceOf a1 (k4 : Int) r8 h9) ⟨.inl rfl, .inl rfl, trivial⟩) ?_
  refine seq_run0 (stp_wrap _ rfl rfl (.inl ⟨rfl, rfl⟩)) ?_
  refine seq_run0 (stp_fldP tyF35_2 rfl) ?_
  refine seq_run1 (stp_load1 tyS3 rfl rfl) rfl ?_
  refine seq_run1 (stp_loadA tyS35 rfl rfl rfl) rfl ?_
  refine qd rfl ?_
  obtain ⟨r10, h11, H⟩ := bnd H
  refine seq_run0 (stp_call (k_gateref2_PriceOf b2 (k4 : Int) r10 h11) ⟨.inl rfl, .inl rfl, trivial⟩) ?_
  refine seq_run0 (stp_wrap _ rfl rfl (.inl ⟨rfl, rfl⟩)) ?_
  refine seq_run0 (stp_leq rfl rfl) ?_
  refine ⟨rfl, ?_⟩
  refine awp_cond _ rfl (fun h12 => ?_) (fun h12 => ?_)
  ·replace H := ift h12 H
   refine awp_seq ?_
   refine awp_plain hN rfl ?_
   refine qd rfl ?_
   refine qe rfl ?_
   refine qe rfl ?_
   refine awp_ret ?_
   replace H := retl H hq5
   cases H
   exact ⟨trivial, .inl rfl, .inl rfl, trivial⟩
  ·replace H := iff_ h12 H
   refine awp_skip ?_
   refine awp_plain hN rfl ?_
   refine seq_run0 (stp_add rfl rfl (by omega)) ?_
   refine qd rfl ?_
   exact ⟨_, backl H, ⟨rfl, rfl, rfl, rfl, trivial⟩, ⟨rfl, rfl, trivial⟩⟩
end Go.Proofs.YtdajmjdjhgpaaaaDoor
