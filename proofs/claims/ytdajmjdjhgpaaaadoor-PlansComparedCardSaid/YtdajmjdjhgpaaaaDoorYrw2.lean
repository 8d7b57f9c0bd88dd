/- Walks along the models. Printed by a program. -/
import Derived.Test.YtdajmjdjhgpaaaaDoorYrw1
namespace Go.Proofs.YtdajmjdjhgpaaaaDoor
open Go.RowKit
set_option linter.unusedVariables false
set_option maxRecDepth 20000
set_option maxHeartbeats 2000000
theorem k_token_CheckScopes (l1 : (List Bs)) (r : (Int)) (H : m_token_CheckScopes l1 = some r) : Fn Tryd.prog 56 [vlst (List.map C_string l1)] (resOf [vint r]) := by
 refine ⟨by kernel_rfl, pure_of (us := [vint r]) Tryd.func56 rfl rfl rfl rfl fun X hN => ?_⟩
 unfold m_token_CheckScopes at H
 refine awp_seq ?_
 refine awp_plain hN rfl ?_
 refine qe rfl ?_
 refine awp_seq ?_
 refine awp_seq ?_
 refine awp_plain hN rfl ?_
 refine qd rfl ?_
 refine seq_run0 (t_len tyU63 rfl) ?_
 refine seq_run0 (stp_gtr rfl rfl) ?_
 refine awp_cond _ rfl (fun h2 => ?_) (fun h2 => ?_)
 ·replace H := ift h2 H
  refine awp_seq ?_
  refine awp_plain hN rfl ?_
  refine qe rfl ?_
  refine awp_ret ?_
  cases H
  exact ⟨trivial, .inl rfl, trivial⟩
 ·replace H := iff_ h2 H
  refine awp_skip ?_
  refine awp_seq ?_
  refine awp_seq ?_
  refine awp_plain hN rfl ?_
  refine qd rfl ?_
  refine seq_run0 (t_len tyU63 rfl) ?_
  refine qd rfl ?_
  refine awp_block ?_
  obtain ⟨h5, H⟩ := gif H
  refine awp_forL (fun (k3 : Nat) (s : Unit) => [(8, .dat (vlst (List.map C_string l1))), (9, .dat (vint (l1.length : Int))), (10, .dat (vint (k3 : Int)))]) (fun (k3 : Nat) (s : Unit) => []) () H ⟨rfl, rfl, rfl, trivial⟩ trivial (fun _ _ => rfl) ?_ ?_
  ·rintro ⟨⟩ H
   replace H : token_CheckScopes_E1 = some r := H
   unfold token_CheckScopes_E1 at H
   refine awp_seq ?_
   refine awp_plain hN rfl ?_
   refine seq_run0 (stp_lss rfl rfl) ?_
   refine awp_seq ?_
   refine awp_cond _ rfl (fun h => (lt_t h).elim) (fun h => ?_)
   refine awp_exit ?_
   refine awp_seq ?_
   refine awp_plain hN rfl ?_
   refine qe rfl ?_
   refine awp_ret ?_
   cases H
   exact ⟨trivial, .inl rfl, trivial⟩
  ·rintro k3 x6 ⟨⟩ q4 h7 h8 H hq4
   replace H : token_CheckScopes_L1 k3 x6 = some q4 := H
   unfold token_CheckScopes_L1 at H
   refine awp_seq ?_
   refine awp_plain hN rfl ?_
   refine seq_run0 (stp_lss rfl rfl) ?_
   refine awp_seq ?_
   refine awp_cond _ rfl (fun h => ?_) (fun h => (lt_f h7 h).elim)
   refine awp_skip ?_
   refine awp_seq ?_
   refine awp_block ?_
   refine awp_seq ?_
   refine awp_plain hN rfl ?_
   refine seq_run0 (t_idx tyE63 (fun _ => rfl) rfl rfl h8) ?_
   refine seq_run0 (stp_loadE1 tyS9 rfl (map_at h8) rfl) ?_
   refine qe rfl ?_
   refine awp_seq ?_
   refine awp_plain hN rfl ?_
   refine qd rfl ?_
   obtain ⟨r9, h10, H⟩ := bnd H
   refine seq_run0 (stp_call (k_token_isScope x6 r9 h10) ⟨.inl rfl, trivial⟩) ?_
   refine seq_run0 (stp_not rfl) ?_
   refine awp_cond _ rfl (fun h11 => ?_) (fun h11 => ?_)
   ·replace H := ift h11 H
    refine awp_seq ?_
    refine awp_plain hN rfl ?_
    refine qe rfl ?_
    refine awp_ret ?_
    replace H := retl H hq4
    cases H
    exact ⟨trivial, .inl rfl, trivial⟩
   ·replace H := iff_ h11 H
    refine awp_skip ?_
    refine awp_plain hN rfl ?_
    refine seq_run0 (stp_add rfl rfl (by omega)) ?_
    refine qd rfl ?_
    exact ⟨_, backl H, ⟨rfl, rfl, rfl, trivial⟩, trivial⟩
theorem k_portal_productsFault (l1 : (List S_api_Product)) (r : (Int)) (H : m_portal_productsFault l1 = some r) : Fn Tryd.prog 36 [vlst (List.map C_api_Product l1)] (resOf [vint r]) := by
 refine ⟨by kernel_rfl, pure_of (us := [vint r]) Tryd.func36 rfl rfl rfl rfl fun X hN => ?_⟩
 unfold m_portal_productsFault at H
 refine awp_seq ?_
 refine awp_plain hN rfl ?_
 refine qe rfl ?_
 refine awp_seq ?_
 refine awp_seq ?_
 refine awp_plain hN rfl ?_
 refine qd rfl ?_
 refine seq_run0 (t_len tyU26 rfl) ?_
 refine seq_run0 (stp_gtr rfl rfl) ?_
 refine awp_cond _ rfl (fun h2 => ?_) (fun h2 => ?_)
 ·replace H := ift h2 H
  refine awp_seq ?_
  refine awp_plain hN rfl ?_
  refine qe rfl ?_
  refine awp_ret ?_
  cases H
  exact ⟨trivial, .inl rfl, trivial⟩
 ·replace H := iff_ h2 H
  refine awp_skip ?_
  refine awp_seq ?_
  refine awp_seq ?_
  refine awp_plain hN rfl ?_
  refine qd rfl ?_
  refine seq_run0 (t_len tyU26 rfl) ?_
  refine qd rfl ?_
  refine awp_block ?_
  obtain ⟨h5, H⟩ := gif H
  refine awp_forL (fun (k3 : Nat) (s : Unit) => [(0, .dat (vlst (List.map C_api_Product l1))), (9, .dat (vlst (List.map C_api_Product l1))), (10, .dat (vint (l1.length : Int))), (11, .dat (vint (k3 : Int)))]) (fun (k3 : Nat) (s : Unit) => []) () H ⟨rfl, rfl, rfl, rfl, trivial⟩ trivial (fun _ _ => rfl) ?_ ?_
  ·rintro ⟨⟩ H
   replace H : portal_productsFault_E1 = some r := H
   unfold portal_productsFault_E1 at H
   refine awp_seq ?_
   refine awp_plain hN rfl ?_
   refine seq_run0 (stp_lss rfl rfl) ?_
   refine awp_seq ?_
   refine awp_cond _ rfl (fun h => (lt_t h).elim) (fun h => ?_)
   refine awp_exit ?_
   refine awp_seq ?_
   refine awp_plain hN rfl ?_
   refine qe rfl ?_
   refine awp_ret ?_
   cases H
   exact ⟨trivial, .inl rfl, trivial⟩
  ·rintro k3 x6 ⟨⟩ q4 h7 h8 H hq4
   replace H : portal_productsFault_L1 l1 k3 x6 = some q4 := H
   unfold portal_productsFault_L1 at H
   refine awp_seq ?_
   refine awp_plain hN rfl ?_
   refine seq_run0 (stp_lss rfl rfl) ?_
   refine awp_seq ?_
   refine awp_cond _ rfl (fun h => ?_) (fun h => (lt_f h7 h).elim)
   refine awp_skip ?_
   refine awp_seq ?_
   refine awp_block ?_
   refine awp_seq ?_
   refine awp_plain hN rfl ?_
   refine qd rfl ?_
   refine seq_run0 (t_idx tyE26 (fun _ => rfl) rfl rfl h8) ?_
   refine seq_run0 (stp_loadEA tyS66 rfl (map_at h8) rfl) ?_
   refine seq_run2 (stp_alloc 1 tyZ66 rfl) rfl ?_
   refine qe rfl ?_
   refine seq_run2 (stp_storeW tyS66 rfl rfl rfl rfl) rfl ?_
   refine awp_seq ?_
   refine awp_seq ?_
   refine awp_plain hN rfl ?_
   refine seq_run0 (stp_fldP tyF66_0 rfl) ?_
   refine seq_run1 (stp_load1 tyS9 rfl rfl) rfl ?_
   obtain ⟨r9, h10, H⟩ := bnd H
   refine seq_run0 (stp_call (k_kit_IsKey x6.Key r9 h10) ⟨.inl rfl, trivial⟩) ?_
   refine seq_run0 (stp_not rfl) ?_
   refine awp_cond _ rfl (fun h11 => ?_) (fun h11 => ?_)
   ·replace H := ift h11 H
    refine awp_seq ?_
    refine awp_plain hN rfl ?_
    refine qe rfl ?_
    refine awp_ret ?_
    replace H := retl H hq4
    cases H
    exact ⟨trivial, .inl rfl, trivial⟩
   ·replace H := iff_ h11 H
    refine awp_skip ?_
    refine awp_seq ?_
    refine awp_joinE (ι := Bool) (fun i => [(0, .dat (vlst (List.map C_api_Product l1))), (4, .ptr 1 0), (9, .dat (vlst (List.map C_api_Product l1))), (10, .dat (vint (l1.length : Int))), (11, .dat (vint (k3 : Int))), (32, .dat (vbool i))]) (fun i => [(1, .box none 66 [.dat (vstr x6.Key), .dat (vlst (List.map C_string x6.Scopes))])]) (fun i => portal_productsFault_J2 x6 i = some q4) (fun i => rfl) ?_ ?_
    ·skip
     refine awp_draw mixed hN rfl rfl ?_
     refine qd rfl ?_
     refine seq_run0 (stp_gtr rfl rfl) ?_
     refine qd rfl ?_
     refine seq_split (j := 2) rfl rfl (fun h12 => ?_) (fun h12 => ?_) rfl
     ·have h13 := un1 h12
      replace H := ift h13 H
      refine seq_g0 rfl rfl h12 (stp_fldP tyF66_0 rfl) ?_
      refine seq_g1 rfl rfl h12 (stp_load1 tyS9 rfl rfl) rfl ?_
      refine seq_g0 rfl rfl h12 (stp_move (.dat _) rfl) ?_
      refine seq_g0 rfl rfl h12 (stp_move (.dat _) rfl) ?_
      refine seq_g0 rfl rfl h12 (stp_sub rfl rfl (by omega)) ?_
      obtain ⟨x14, h15, H⟩ := bnd H
      refine seq_g0 rfl rfl h12 (t_idxI tyE26 (fun _ => rfl) rfl rfl h15) ?_
      refine seq_g0 rfl rfl h12 (stp_fldE tyF66_0 rfl) ?_
      refine seq_g0 rfl rfl h12 (stp_loadE1 tyS9 rfl (map_at (at_some h15).2) rfl) ?_
      refine seq_g0 rfl rfl h12 (stp_sleq rfl rfl) ?_
      refine seq_run0 (stp_pick_t rfl (bTT h13) rfl) ?_
      refine ⟨rfl, ?_⟩
      exact ⟨(Op.bytesLess x6.Key x14.Key || x6.Key == x14.Key), H, ⟨rfl, rfl, rfl, rfl, rfl, rfl, trivial⟩, ⟨rfl, trivial⟩⟩
     ·have h16 := un2 h12
      replace H := iff_ h16 H
      refine seq_skip rfl rfl h12 ?_
      refine seq_skip rfl rfl h12 ?_
      refine seq_skip rfl rfl h12 ?_
      refine seq_skip rfl rfl h12 ?_
      refine seq_skip rfl rfl h12 ?_
      refine seq_skip rfl rfl h12 ?_
      refine seq_skip rfl rfl h12 ?_
      refine seq_skip rfl rfl h12 ?_
      refine seq_skip rfl rfl h12 ?_
      refine seq_run0 (stp_pick_f rfl (bFF h16) rfl) ?_
      refine ⟨rfl, ?_⟩
      exact ⟨false, H, ⟨rfl, rfl, rfl, rfl, rfl, rfl, trivial⟩, ⟨rfl, trivial⟩⟩
    ·rintro v17 H
     replace H : portal_productsFault_J2 x6 v17 = some q4 := H
     unfold portal_productsFault_J2 at H
     refine awp_cond _ rfl (fun h18 => ?_) (fun h18 => ?_)
     ·replace H := ift h18 H
      refine awp_seq ?_
      refine awp_plain hN rfl ?_
      refine qe rfl ?_
      refine awp_ret ?_
      replace H := retl H hq4
      cases H
      exact ⟨trivial, .inl rfl, trivial⟩
     ·replace H := iff_ h18 H
      refine awp_skip ?_
      refine awp_seq ?_
      refine awp_plain hN rfl ?_
      refine seq_run0 (stp_fldP tyF66_1 rfl) ?_
      refine seq_run1 (stp_load1 tyS63 rfl rfl) rfl ?_
      obtain ⟨r19, h20, H⟩ := bnd H
      refine seq_run0 (stp_call (k_token_CheckScopes x6.Scopes r19 h20) ⟨.inl rfl, trivial⟩) ?_
      refine qe rfl ?_
      refine awp_seq ?_
      refine awp_plain hN rfl ?_
      refine qd rfl ?_
      refine seq_run0 (stp_neq rfl rfl) ?_
      refine awp_cond _ rfl (fun h21 => ?_) (fun h21 => ?_)
      ·replace H := ift h21 H
       refine awp_seq ?_
       refine awp_plain hN rfl ?_
       refine qd rfl ?_
       refine qe rfl ?_
       refine awp_ret ?_
       replace H := retl H hq4
       cases H
       exact ⟨trivial, .inl rfl, trivial⟩
      ·replace H := iff_ h21 H
       refine awp_skip ?_
       refine awp_plain hN rfl ?_
       refine seq_run0 (stp_add rfl rfl (by omega)) ?_
       refine qd rfl ?_
       exact ⟨_, backl H, ⟨rfl, rfl, rfl, rfl, trivial⟩, trivial⟩
theorem k_slices_BinarySearchFunc_L_api_Product_api_Product_string_ (x1 : (List S_api_Product)) (target2 : Bs) (p2 : S_api_Product → Bs → Option (Int)) (fv2 : Nat) (us2 : List V) (hp2 : ∀ a0 a1 r, p2 a0 a1 = some r → Fn Tryd.prog fv2 ([vagg (C_api_Product a0), vstr a1] ++ us2) (resOf [vint r])) (r : (Int × Bool)) (H : m_slices_BinarySearchFunc_L_api_Product_api_Product_string_ x1 target2 p2 = some r) : Fn Tryd.prog 59 [vlst (List.map C_api_Product x1), vstr target2, vfn fv2 us2] (resOf [vint r.1, vbool r.2]) := by
 refine ⟨by kernel_rfl, pure_of (us := [vint r.1, vbool r.2]) Tryd.func59 rfl rfl rfl rfl fun X hN => ?_⟩
 unfold m_slices_BinarySearchFunc_L_api_Product_api_Product_string_ at H
 refine awp_seq ?_
 refine awp_plain hN rfl ?_
 refine qe rfl ?_
 refine qe rfl ?_
 refine awp_seq ?_
 refine awp_plain hN rfl ?_
 refine qd rfl ?_
 refine seq_run0 (t_len tyU26 rfl) ?_
 refine qe rfl ?_
 refine awp_seq ?_
 refine awp_plain hN rfl ?_
 refine qd rfl ?_
 refine qe rfl ?_
 refine qe rfl ?_
 refine awp_joinE (ι := Int) (fun i => [(0, .dat (vlst (List.map C_api_Product x1))), (1, .dat (vstr target2)), (2, .dat (vfn fv2 us2)), (8, .dat (vint (x1.length : Int))), (9, .dat (vint i))]) (fun i => []) (fun i => slices_BinarySearchFunc_L_api_Product_api_Product_string__J1 x1 target2 p2 i = some r) (fun i => rfl) ?_ ?_
 ·skip
  refine awp_block ?_
  refine awp_iter (fun (s : Int × Int) => [(0, .dat (vlst (List.map C_api_Product x1))), (1, .dat (vstr target2)), (2, .dat (vfn fv2 us2)), (8, .dat (vint (x1.length : Int))), (9, .dat (vint s.1)), (10, .dat (vint s.2))]) (fun (s : Int × Int) => []) (0, (x1.length : Int)) H ⟨rfl, rfl, rfl, rfl, rfl, rfl, trivial⟩ trivial (fun _ => rfl) ?_
  rintro ⟨i3, j4⟩ q5 H hq5
  replace H : slices_BinarySearchFunc_L_api_Product_api_Product_string__L2 x1 target2 p2 i3 j4 = some q5 := H
  unfold slices_BinarySearchFunc_L_api_Product_api_Product_string__L2 at H
  refine awp_seq ?_
  refine awp_seq ?_
  refine awp_plain hN rfl ?_
  refine qd rfl ?_
  refine qd rfl ?_
  refine seq_run0 (stp_lss rfl rfl) ?_
  refine awp_cond _ rfl (fun h6 => ?_) (fun h6 => ?_)
  ·replace H := ift h6 H
   refine awp_skip ?_
   refine awp_block ?_
   refine awp_seq ?_
   refine awp_plain hN rfl ?_
   refine qd rfl ?_
   refine qd rfl ?_
   refine seq_run0 (stp_wrap _ rfl rfl (.inl ⟨rfl, rfl⟩)) ?_
   refine seq_run0 (stp_conv tyU3 tyU96 rfl) ?_
   refine seq_run0 (stp_dat (stp_shr rfl rfl (by decide)) rfl) ?_
   refine seq_run0 (stp_conv tyU96 tyU3 rfl) ?_
   refine qe rfl ?_
   refine awp_seq ?_
   refine awp_plain hN rfl ?_
   refine qd rfl ?_
   refine qd rfl ?_
   refine qd rfl ?_
   obtain ⟨x7, h8, H⟩ := bnd H
   refine seq_run0 (t_idxI tyE26 (fun _ => rfl) rfl rfl h8) ?_
   refine seq_run0 (stp_loadEA tyS66 rfl (map_at (at_some h8).2) rfl) ?_
   refine qd rfl ?_
   obtain ⟨r9, h10, H⟩ := bnd H
   refine seq_run0 (stp_callv (hp2 x7 target2 r9 h10) rfl ⟨.inl rfl, .inl rfl, trivial⟩) ?_
   refine seq_run0 (stp_lss rfl rfl) ?_
   refine awp_cond _ rfl (fun h11 => ?_) (fun h11 => ?_)
   ·replace H := ift h11 H
    refine awp_plain hN rfl ?_
    refine qd rfl ?_
    refine seq_run0 (stp_wrap _ rfl rfl (.inl ⟨rfl, rfl⟩)) ?_
    refine qe rfl ?_
    exact ⟨_, backl H, ⟨rfl, rfl, rfl, rfl, rfl, rfl, trivial⟩, trivial⟩
   ·replace H := iff_ h11 H
    refine awp_plain hN rfl ?_
    refine qd rfl ?_
    refine qe rfl ?_
    exact ⟨_, backl H, ⟨rfl, rfl, rfl, rfl, rfl, rfl, trivial⟩, trivial⟩
  ·replace H := iff_ h6 H
   refine awp_exit ?_
   replace H := outl H hq5
   exact ⟨i3, H, ⟨rfl, rfl, rfl, rfl, rfl, trivial⟩, trivial⟩
 ·rintro i12 H
  replace H : slices_BinarySearchFunc_L_api_Product_api_Product_string__J1 x1 target2 p2 i12 = some r := H
  unfold slices_BinarySearchFunc_L_api_Product_api_Product_string__J1 at H
  refine awp_joinE (ι := Bool) (fun i => [(6, .dat (vint i12)), (7, .dat (vbool i))]) (fun i => []) (fun i => slices_BinarySearchFunc_L_api_Product_api_Product_string__J3 i12 i = some r) (fun i => rfl) ?_ ?_
  ·skip
   refine awp_plain hN rfl ?_
   refine qd rfl ?_
   refine qd rfl ?_
   refine qd rfl ?_
   refine seq_run0 (stp_lss rfl rfl) ?_
   refine qd rfl ?_
   refine seq_split (j := 4) rfl rfl (fun h13 => ?_) (fun h13 => ?_) rfl
   ·have h14 := un1 h13
    replace H := ift h14 H
    refine seq_g0 rfl rfl h13 (stp_move (.dat _) rfl) ?_
    refine seq_g0 rfl rfl h13 (stp_move (.dat _) rfl) ?_
    refine seq_g0 rfl rfl h13 (stp_move (.dat _) rfl) ?_
    obtain ⟨x15, h16, H⟩ := bnd H
    refine seq_g0 rfl rfl h13 (t_idxI tyE26 (fun _ => rfl) rfl rfl h16) ?_
    refine seq_g0 rfl rfl h13 (stp_loadEA tyS66 rfl (map_at (at_some h16).2) rfl) ?_
    refine seq_g0 rfl rfl h13 (stp_move (.dat _) rfl) ?_
    obtain ⟨r17, h18, H⟩ := bnd H
    refine seq_g0 rfl rfl h13 (stp_callv (hp2 x15 target2 r17 h18) rfl ⟨.inl rfl, .inl rfl, trivial⟩) ?_
    refine seq_g0 rfl rfl h13 (stp_eql rfl rfl) ?_
    refine seq_run0 (stp_pick_t rfl (bTT h14) rfl) ?_
    refine qe rfl ?_
    refine qe rfl ?_
    exact ⟨decide (r17 = 0), H, ⟨rfl, rfl, trivial⟩, trivial⟩
   ·have h19 := un2 h13
    replace H := iff_ h19 H
    refine seq_skip rfl rfl h13 ?_
    refine seq_skip rfl rfl h13 ?_
    refine seq_skip rfl rfl h13 ?_
    refine seq_skip rfl rfl h13 ?_
    refine seq_skip rfl rfl h13 ?_
    refine seq_skip rfl rfl h13 ?_
    refine seq_skip rfl rfl h13 ?_
    refine seq_skip rfl rfl h13 ?_
    refine seq_run0 (stp_pick_f rfl (bFF h19) rfl) ?_
    refine qe rfl ?_
    refine qe rfl ?_
    exact ⟨false, H, ⟨rfl, rfl, trivial⟩, trivial⟩
  ·rintro v20 H
   replace H : slices_BinarySearchFunc_L_api_Product_api_Product_string__J3 i12 v20 = some r := H
   unfold slices_BinarySearchFunc_L_api_Product_api_Product_string__J3 at H
   refine awp_ret ?_
   cases H
   exact ⟨trivial, .inl rfl, .inl rfl, trivial⟩
theorem k_strings_Compare (a b : Bs) (r : Int) (H : m_strings_Compare a b = some r) : Fn Tryd.prog 51 [vstr a, vstr b] (resOf [vint r]) := by
 cases H
 refine fn_of_calls (by kernel_rfl) fun M w vs h => ?_
 have h1 := Ts_vals (us := [.string ⟨a.toArray⟩, .string ⟨b.toArray⟩]) h
 subst h1
 refine (Tryd.strings_Compare ⟨a.toArray⟩ ⟨b.toArray⟩ w).mono ?_
 rintro e w' ⟨rfl, rfl⟩
 exact ⟨_, rfl, rfl, Kp.refl _ _⟩
theorem k_portal_productAt_1 (p1 : S_api_Product) (k2 : Bs) (r : (Int)) (H : m_portal_productAt_1 p1 k2 = some r) : Fn Tryd.prog 60 [vagg (C_api_Product p1), vstr k2] (resOf [vint r]) := by
 refine ⟨by kernel_rfl, pure_of (us := [vint r]) Tryd.func60 rfl rfl rfl rfl fun X hN => ?_⟩
 unfold m_portal_productAt_1 at H
 refine awp_seq ?_
 refine awp_plain hN rfl ?_
 refine seq_run2 (stp_boxA 1 rfl) rfl ?_
 refine qe rfl ?_
 refine awp_seq ?_
 refine awp_plain hN rfl ?_
 refine seq_run0 (stp_fldP tyF66_0 rfl) ?_
 refine seq_run1 (stp_load1 tyS9 rfl rfl) rfl ?_
 refine qd rfl ?_
 obtain ⟨r3, h4, H⟩ := bnd H
 refine seq_run0 (stp_call (k_strings_Compare p1.Key k2 r3 h4) ⟨.inl rfl, .inl rfl, trivial⟩) ?_
 refine qe rfl ?_
 refine awp_ret ?_
 cases H
 exact ⟨trivial, .inl rfl, trivial⟩
theorem k_portal_productAt (c1 : S_api_Catalog) (key2 : Bs) (r : (Int × Bool)) (H : m_portal_productAt c1 key2 = some r) : Fn Tryd.prog 42 [vagg (C_api_Catalog c1), vstr key2] (resOf [vint r.1, vbool r.2]) := by
 refine ⟨by kernel_rfl, pure_of (us := [vint r.1, vbool r.2]) Tryd.func42 rfl rfl rfl rfl fun X hN => ?_⟩
 unfold m_portal_productAt at H
 refine awp_seq ?_
 refine awp_plain hN rfl ?_
 refine seq_run2 (stp_boxA 1 rfl) rfl ?_
 refine qe rfl ?_
 refine qe rfl ?_
 refine awp_seq ?_
 refine awp_plain hN rfl ?_
 refine seq_run0 (stp_fldP tyF29_0 rfl) ?_
 refine seq_run1 (stp_load1 tyS26 rfl rfl) rfl ?_
 refine qd rfl ?_
 obtain ⟨r3, h4, H⟩ := bnd H
 refine seq_run0 (stp_callW (k_slices_BinarySearchFunc_L_api_Product_api_Product_string_ c1.Products key2 (fun (a0 : S_api_Product) (a1 : Bs) => m_portal_productAt_1 a0 a1) 60 [] (fun a0 a1 r h => k_portal_productAt_1 a0 a1 r h) r3 h4) ⟨.inl (.inl rfl), .inl (.inl rfl), .inr ⟨_, rfl, rfl⟩, trivial⟩) ?_
 refine seq_run0 (stp_ext rfl rfl) ?_
 refine seq_run0 (stp_ext rfl rfl) ?_
 refine qe rfl ?_
 refine qe rfl ?_
 refine awp_ret ?_
 cases H
 exact ⟨trivial, .inl rfl, .inl rfl, trivial⟩
theorem k_kit_Outside (n1 : Int) (low2 : Int) (high3 : Int) (r : (Bool)) (H : m_kit_Outside n1 low2 high3 = some r) : Fn Tryd.prog 31 [vint n1, vint low2, vint high3] (resOf [vbool r]) := by
 refine ⟨by kernel_rfl, pure_of (us := [vbool r]) Tryd.func31 rfl rfl rfl rfl fun X hN => ?_⟩
 unfold m_kit_Outside at H
 refine awp_seq ?_
 refine awp_plain hN rfl ?_
 refine qe rfl ?_
 refine awp_seq ?_
 refine awp_plain hN rfl ?_
 refine qd rfl ?_
 refine qd rfl ?_
 refine seq_run0 (stp_lss rfl rfl) ?_
 refine qd rfl ?_
 refine seq_aF rfl rfl (fun hc => stp_move (.dat _) rfl) ?_
 refine seq_aF rfl rfl (fun hc => stp_move (.dat _) rfl) ?_
 refine seq_aF rfl rfl (fun hc => stp_gtr (cnd (c := (!(decide (n1 < low2)))) hc) (cnd (c := (!(decide (n1 < low2)))) hc)) ?_
 refine seq_run0 (stp_pick_or rfl rfl (fun hb => (cnd (c := (!(decide (n1 < low2)))) (notI hb)))) ?_
 refine qe rfl ?_
 refine awp_ret ?_
 cases H
 exact ⟨trivial, .inl rfl, trivial⟩
theorem k_portal_tiersFault (l1 : (List S_api_Tier)) (r : (Int)) (H : m_portal_tiersFault l1 = some r) : Fn Tryd.prog 57 [vlst (List.map C_api_Tier l1)] (resOf [vint r]) := by
 refine ⟨by kernel_rfl, pure_of (us := [vint r]) Tryd.func57 rfl rfl rfl rfl fun X hN => ?_⟩
 unfold m_portal_tiersFault at H
 refine awp_seq ?_
 refine awp_plain hN rfl ?_
 refine qe rfl ?_
 refine awp_seq ?_
 refine awp_seq ?_
 refine awp_plain hN rfl ?_
 refine qd rfl ?_
 refine seq_run0 (t_len tyU33 rfl) ?_
 refine seq_run0 (stp_gtr rfl rfl) ?_
 refine awp_cond _ rfl (fun h2 => ?_) (fun h2 => ?_)
 ·replace H := ift h2 H
  refine awp_seq ?_
  refine awp_plain hN rfl ?_
  refine qe rfl ?_
  refine awp_ret ?_
  cases H
  exact ⟨trivial, .inl rfl, trivial⟩
 ·replace H := iff_ h2 H
  refine awp_skip ?_
  refine awp_seq ?_
  refine awp_seq ?_
  refine awp_plain hN rfl ?_
  refine qd rfl ?_
  refine seq_run0 (t_len tyU33 rfl) ?_
  refine qd rfl ?_
  refine awp_block ?_
  obtain ⟨h5, H⟩ := gif H
  refine awp_forL (fun (k3 : Nat) (s : Unit) => [(0, .dat (vlst (List.map C_api_Tier l1))), (8, .dat (vlst (List.map C_api_Tier l1))), (9, .dat (vint (l1.length : Int))), (10, .dat (vint (k3 : Int)))]) (fun (k3 : Nat) (s : Unit) => []) () H ⟨rfl, rfl, rfl, rfl, trivial⟩ trivial (fun _ _ => rfl) ?_ ?_
  ·rintro ⟨⟩ H
   replace H : portal_tiersFault_E1 l1 = some r := H
   unfold portal_tiersFault_E1 at H
   refine awp_seq ?_
   refine awp_plain hN rfl ?_
   refine seq_run0 (stp_lss rfl rfl) ?_
   refine awp_seq ?_
   refine awp_cond _ rfl (fun h => (lt_t h).elim) (fun h => ?_)
   refine awp_exit ?_
   refine awp_seq ?_
   refine awp_joinE (ι := Bool) (fun i => [(46, .dat (vbool i))]) (fun i => []) (fun i => portal_tiersFault_J2 i = some r) (fun i => rfl) ?_ ?_
   ·skip
    refine awp_plain hN rfl ?_
    refine qd rfl ?_
    refine seq_run0 (t_len tyU33 rfl) ?_
    refine seq_run0 (stp_gtr rfl rfl) ?_
    refine qd rfl ?_
    refine seq_split (j := 3) rfl rfl (fun h7 => ?_) (fun h7 => ?_) rfl
    ·have h8 := un1 h7
     replace H := ift h8 H
     refine seq_g0 rfl rfl h7 (stp_move (.dat _) rfl) ?_
     obtain ⟨x9, h10, H⟩ := bnd H
     refine seq_g0 rfl rfl h7 (t_idx tyE33 (fun _ => rfl) rfl rfl h10) ?_
     refine seq_g0 rfl rfl h7 (stp_fldE tyF62_0 rfl) ?_
     refine seq_g0 rfl rfl h7 (stp_loadE1 tyS3 rfl (map_at h10) rfl) ?_
     refine seq_g0 rfl rfl h7 (stp_neq rfl rfl) ?_
     refine seq_run0 (stp_pick_t rfl (bTT h8) rfl) ?_
     exact ⟨decide (x9.From ≠ 1), H, ⟨rfl, trivial⟩, trivial⟩
    ·have h11 := un2 h7
     replace H := iff_ h11 H
     refine seq_skip rfl rfl h7 ?_
     refine seq_skip rfl rfl h7 ?_
     refine seq_skip rfl rfl h7 ?_
     refine seq_skip rfl rfl h7 ?_
     refine seq_skip rfl rfl h7 ?_
     refine seq_run0 (stp_pick_f rfl (bFF h11) rfl) ?_
     exact ⟨false, H, ⟨rfl, trivial⟩, trivial⟩
   ·rintro v12 H
    replace H : portal_tiersFault_J2 v12 = some r := H
    unfold portal_tiersFault_J2 at H
    refine awp_cond _ rfl (fun h13 => ?_) (fun h13 => ?_)
    ·replace H := ift h13 H
     refine awp_seq ?_
     refine awp_plain hN rfl ?_
     refine qe rfl ?_
     refine awp_ret ?_
     cases H
     exact ⟨trivial, .inl rfl, trivial⟩
    ·replace H := iff_ h13 H
     refine awp_skip ?_
     refine awp_seq ?_
     refine awp_plain hN rfl ?_
     refine qe rfl ?_
     refine awp_ret ?_
     cases H
     exact ⟨trivial, .inl rfl, trivial⟩
  ·rintro k3 x6 ⟨⟩ q4 h14 h15 H hq4
   replace H : portal_tiersFault_L1 l1 k3 x6 = some q4 := H
   unfold portal_tiersFault_L1 at H
   refine awp_seq ?_
   refine awp_plain hN rfl ?_
   refine seq_run0 (stp_lss rfl rfl) ?_
   refine awp_seq ?_
   refine awp_cond _ rfl (fun h => ?_) (fun h => (lt_f h14 h).elim)
   refine awp_skip ?_
   refine awp_seq ?_
   refine awp_block ?_
   refine awp_seq ?_
   refine awp_plain hN rfl ?_
   refine qd rfl ?_
   refine seq_run0 (t_idx tyE33 (fun _ => rfl) rfl rfl h15) ?_
   refine seq_run0 (stp_loadEA tyS62 rfl (map_at h15) rfl) ?_
   refine seq_run2 (stp_alloc 1 tyZ62 rfl) rfl ?_
   refine qe rfl ?_
   refine seq_run2 (stp_storeW tyS62 rfl rfl rfl rfl) rfl ?_
   refine awp_seq ?_
   refine awp_joinE (ι := Bool) (fun i => [(0, .dat (vlst (List.map C_api_Tier l1))), (3, .dat (vint (k3 : Int))), (4, .ptr 1 0), (8, .dat (vlst (List.map C_api_Tier l1))), (9, .dat (vint (l1.length : Int))), (10, .dat (vint (k3 : Int))), (22, .dat (vbool i))]) (fun i => [(1, .box none 62 [.dat (vint x6.From), .dat (vint x6.Cents)])]) (fun i => portal_tiersFault_J3 l1 k3 x6 i = some q4) (fun i => rfl) ?_ ?_
   ·skip
    refine awp_plain hN rfl ?_
    refine seq_run0 (stp_fldP tyF62_0 rfl) ?_
    refine seq_run1 (stp_load1 tyS3 rfl rfl) rfl ?_
    obtain ⟨r16, h17, H⟩ := bnd H
    refine seq_run0 (stp_call (k_kit_Outside x6.From 1 1000000000000 r16 h17) ⟨.inl rfl, .inl rfl, .inl rfl, trivial⟩) ?_
    refine qd rfl ?_
    refine seq_split (j := 3) rfl rfl (fun h18 => ?_) (fun h18 => ?_) rfl
    ·have h19 := un3 h18
     replace H := iff_ h19 H
     refine seq_g0 rfl rfl h18 (stp_fldP tyF62_1 rfl) ?_
     refine seq_g1 rfl rfl h18 (stp_load1 tyS3 rfl rfl) rfl ?_
     obtain ⟨r20, h21, H⟩ := bnd H
     refine seq_g0 rfl rfl h18 (stp_call (k_kit_Outside x6.Cents 0 1000000 r20 h21) ⟨.inl rfl, .inl rfl, .inl rfl, trivial⟩) ?_
     refine seq_run0 (stp_pick_f rfl (bFF h19) rfl) ?_
     exact ⟨r20, H, ⟨rfl, rfl, rfl, rfl, rfl, rfl, rfl, trivial⟩, ⟨rfl, trivial⟩⟩
    ·have h22 := un4 h18
     replace H := ift h22 H
     refine seq_skip rfl rfl h18 ?_
     refine seq_skip rfl rfl h18 ?_
     refine seq_skip rfl rfl h18 ?_
     refine seq_run0 (stp_pick_t rfl (bTT h22) rfl) ?_
     exact ⟨true, H, ⟨rfl, rfl, rfl, rfl, rfl, rfl, rfl, trivial⟩, ⟨rfl, trivial⟩⟩
   ·rintro v23 H
    replace H : portal_tiersFault_J3 l1 k3 x6 v23 = some q4 := H
    unfold portal_tiersFault_J3 at H
    refine awp_cond _ rfl (fun h24 => ?_) (fun h24 => ?_)
    ·replace H := ift h24 H
     refine awp_seq ?_
     refine awp_plain hN rfl ?_
     refine qe rfl ?_
     refine awp_ret ?_
     replace H := retl H hq4
     cases H
     exact ⟨trivial, .inl rfl, trivial⟩
    ·replace H := iff_ h24 H
     refine awp_skip ?_
     refine awp_joinE (ι := Bool) (fun i => [(0, .dat (vlst (List.map C_api_Tier l1))), (8, .dat (vlst (List.map C_api_Tier l1))), (9, .dat (vint (l1.length : Int))), (10, .dat (vint (k3 : Int))), (35, .dat (vbool i))]) (fun i => []) (fun i => portal_tiersFault_J4 i = some q4) (fun i => rfl) ?_ ?_
     ·skip
      refine awp_draw mixed hN rfl rfl ?_
      refine qd rfl ?_
      refine seq_run0 (stp_gtr rfl rfl) ?_
      refine qd rfl ?_
      refine seq_split (j := 2) rfl rfl (fun h25 => ?_) (fun h25 => ?_) rfl
      ·have h26 := un1 h25
       replace H := ift h26 H
       refine seq_g0 rfl rfl h25 (stp_fldP tyF62_0 rfl) ?_
       refine seq_g1 rfl rfl h25 (stp_load1 tyS3 rfl rfl) rfl ?_
       refine seq_g0 rfl rfl h25 (stp_move (.dat _) rfl) ?_
       refine seq_g0 rfl rfl h25 (stp_move (.dat _) rfl) ?_
       refine seq_g0 rfl rfl h25 (stp_sub rfl rfl (by omega)) ?_
       obtain ⟨x27, h28, H⟩ := bnd H
       refine seq_g0 rfl rfl h25 (t_idxI tyE33 (fun _ => rfl) rfl rfl h28) ?_
       refine seq_g0 rfl rfl h25 (stp_fldE tyF62_0 rfl) ?_
       refine seq_g0 rfl rfl h25 (stp_loadE1 tyS3 rfl (map_at (at_some h28).2) rfl) ?_
       refine seq_g0 rfl rfl h25 (stp_leq rfl rfl) ?_
       refine seq_run0 (stp_pick_t rfl (bTT h26) rfl) ?_
       refine ⟨rfl, ?_⟩
       exact ⟨decide (x6.From ≤ x27.From), H, ⟨rfl, rfl, rfl, rfl, rfl, trivial⟩, trivial⟩
      ·have h29 := un2 h25
       replace H := iff_ h29 H
       refine seq_skip rfl rfl h25 ?_
       refine seq_skip rfl rfl h25 ?_
       refine seq_skip rfl rfl h25 ?_
       refine seq_skip rfl rfl h25 ?_
       refine seq_skip rfl rfl h25 ?_
       refine seq_skip rfl rfl h25 ?_
       refine seq_skip rfl rfl h25 ?_
       refine seq_skip rfl rfl h25 ?_
       refine seq_skip rfl rfl h25 ?_
       refine seq_run0 (stp_pick_f rfl (bFF h29) rfl) ?_
       refine ⟨rfl, ?_⟩
       exact ⟨false, H, ⟨rfl, rfl, rfl, rfl, rfl, trivial⟩, trivial⟩
     ·rintro v30 H
      replace H : portal_tiersFault_J4 v30 = some q4 := H
      unfold portal_tiersFault_J4 at H
      refine awp_cond _ rfl (fun h31 => ?_) (fun h31 => ?_)
      ·replace H := ift h31 H
       refine awp_seq ?_
       refine awp_plain hN rfl ?_
       refine qe rfl ?_
       refine awp_ret ?_
       replace H := retl H hq4
       cases H
       exact ⟨trivial, .inl rfl, trivial⟩
      ·replace H := iff_ h31 H
       refine awp_skip ?_
       refine awp_plain hN rfl ?_
       refine seq_run0 (stp_add rfl rfl (by omega)) ?_
       refine qd rfl ?_
       exact ⟨_, backl H, ⟨rfl, rfl, rfl, rfl, trivial⟩, trivial⟩
theorem k_portal_planFault (v1 : S_api_Catalog) (v2 : Int) (r : (Int)) (H : m_portal_planFault v1 v2 = some r) : Fn Tryd.prog 37 [vagg (C_api_Catalog v1), vint v2] (resOf [vint r]) := by
 refine ⟨by kernel_rfl, pure_of (us := [vint r]) Tryd.func37 rfl rfl rfl rfl fun X hN => ?_⟩
 unfold m_portal_planFault at H
 refine awp_seq ?_
 refine awp_plain hN rfl ?_
 refine seq_run2 (stp_boxA 1 rfl) rfl ?_
 refine qe rfl ?_
 refine awp_seq ?_
 refine awp_plain hN rfl ?_
 refine seq_run0 (stp_fldP tyF29_1 rfl) ?_
 refine seq_run1 (stp_load1 tyS27 rfl rfl) rfl ?_
 refine qd rfl ?_
 obtain ⟨x3, h4, H⟩ := bnd H
 refine seq_run0 (t_idxI tyE27 (fun _ => rfl) rfl rfl h4) ?_
 refine seq_run0 (stp_loadEA tyS35 rfl (map_at (at_some h4).2) rfl) ?_
 refine seq_run2 (stp_alloc 2 tyZ35 rfl) rfl ?_
 refine seq_run2 (stp_storeW tyS35 rfl rfl rfl rfl) rfl ?_
 refine awp_seq ?_
 refine awp_block ?_
 refine awp_seq ?_
 refine awp_plain hN rfl ?_
 refine seq_run0 (stp_fldP tyF35_0 rfl) ?_
 refine seq_run1 (stp_load1 tyS9 rfl rfl) rfl ?_
 obtain ⟨r5, h6, H⟩ := bnd H
 refine seq_run0 (stp_call (k_kit_IsKey x3.Key r5 h6) ⟨.inl rfl, trivial⟩) ?_
 refine seq_run0 (stp_not rfl) ?_
 refine qe rfl ?_
 refine awp_cond _ rfl (fun h7 => ?_) (fun h7 => ?_)
 ·replace H := ift h7 H
  refine awp_seq ?_
  refine awp_plain hN rfl ?_
  refine qe rfl ?_
  refine awp_ret ?_
  cases H
  exact ⟨trivial, .inl rfl, trivial⟩
 ·replace H := iff_ h7 H
  refine awp_joinE (ι := Bool) (fun i => [(2, .ptr 1 0), (5, .ptr 2 0), (19, .dat (vbool i))]) (fun i => [(1, .box none 29 [.dat (vlst (List.map C_api_Product v1.Products)), .dat (vlst (List.map C_api_Plan v1.Plans))]), (2, .box none 35 [.dat (vstr x3.Key), .dat (vstr x3.Product), .dat (vint x3.Base), .dat (vint x3.Free), .dat (vlst (List.map C_api_Tier x3.Tiers)), .dat (vint x3.Limit), .dat (vint x3.Trial), .dat (vbool x3.Asked)])]) (fun i => portal_planFault_J1 v1 x3 i = some r) (fun i => rfl) ?_ ?_
  ·skip
   refine awp_draw mixed hN rfl rfl ?_
   refine qd rfl ?_
   refine seq_run0 (stp_gtr rfl rfl) ?_
   refine qd rfl ?_
   refine seq_split (j := 2) rfl rfl (fun h8 => ?_) (fun h8 => ?_) rfl
   ·have h9 := un1 h8
    replace H := ift h9 H
    refine seq_g0 rfl rfl h8 (stp_fldP tyF35_0 rfl) ?_
    refine seq_g1 rfl rfl h8 (stp_load1 tyS9 rfl rfl) rfl ?_
    refine seq_g0 rfl rfl h8 (stp_fldP tyF29_1 rfl) ?_
    refine seq_g1 rfl rfl h8 (stp_load1 tyS27 rfl rfl) rfl ?_
    refine seq_g0 rfl rfl h8 (stp_move (.dat _) rfl) ?_
    refine seq_g0 rfl rfl h8 (stp_wrap _ rfl rfl (.inr (.inl ⟨rfl, rfl⟩))) ?_
    obtain ⟨x10, h11, H⟩ := bnd H
    refine seq_g0 rfl rfl h8 (t_idxI tyE27 (fun _ => rfl) rfl rfl h11) ?_
    refine seq_g0 rfl rfl h8 (stp_fldE tyF35_0 rfl) ?_
    refine seq_g0 rfl rfl h8 (stp_loadE1 tyS9 rfl (map_at (at_some h11).2) rfl) ?_
    refine seq_g0 rfl rfl h8 (stp_sleq rfl rfl) ?_
    refine seq_run0 (stp_pick_t rfl (bTT h9) rfl) ?_
    refine qe rfl ?_
    refine ⟨rfl, ?_⟩
    exact ⟨(Op.bytesLess x3.Key x10.Key || x3.Key == x10.Key), H, ⟨rfl, rfl, rfl, trivial⟩, ⟨rfl, rfl, trivial⟩⟩
   ·have h12 := un2 h8
    replace H := iff_ h12 H
    refine seq_skip rfl rfl h8 ?_
    refine seq_skip rfl rfl h8 ?_
    refine seq_skip rfl rfl h8 ?_
    refine seq_skip rfl rfl h8 ?_
    refine seq_skip rfl rfl h8 ?_
    refine seq_skip rfl rfl h8 ?_
    refine seq_skip rfl rfl h8 ?_
    refine seq_skip rfl rfl h8 ?_
    refine seq_skip rfl rfl h8 ?_
    refine seq_skip rfl rfl h8 ?_
    refine seq_run0 (stp_pick_f rfl (bFF h12) rfl) ?_
    refine qe rfl ?_
    refine ⟨rfl, ?_⟩
    exact ⟨false, H, ⟨rfl, rfl, rfl, trivial⟩, ⟨rfl, rfl, trivial⟩⟩
  ·rintro v13 H
   replace H : portal_planFault_J1 v1 x3 v13 = some r := H
   unfold portal_planFault_J1 at H
   refine awp_cond _ rfl (fun h14 => ?_) (fun h14 => ?_)
   ·replace H := ift h14 H
    refine awp_seq ?_
    refine awp_plain hN rfl ?_
    refine qe rfl ?_
    refine awp_ret ?_
    cases H
    exact ⟨trivial, .inl rfl, trivial⟩
   ·replace H := iff_ h14 H
    refine awp_skip ?_
    refine awp_seq ?_
    refine awp_seq ?_
    refine awp_plain hN rfl ?_
    refine seq_run1 (stp_loadA tyS29 rfl rfl rfl) rfl ?_
    refine seq_run0 (stp_fldP tyF35_1 rfl) ?_
    refine seq_run1 (stp_load1 tyS9 rfl rfl) rfl ?_
    obtain ⟨r15, h16, H⟩ := bnd H
    refine seq_run0 (stp_call (k_portal_productAt v1 x3.Product r15 h16) ⟨.inl rfl, .inl rfl, trivial⟩) ?_
    refine qd rfl ?_
    refine seq_run0 (stp_ext rfl rfl) ?_
    refine seq_run0 (stp_ext rfl rfl) ?_
    refine qe rfl ?_
    refine qe rfl ?_
    refine awp_seq ?_
    refine awp_plain hN rfl ?_
    refine qd rfl ?_
    refine seq_run0 (stp_not rfl) ?_
    refine awp_cond _ rfl (fun h17 => ?_) (fun h17 => ?_)
    ·replace H := ift h17 H
     refine awp_seq ?_
     refine awp_plain hN rfl ?_
     refine qe rfl ?_
     refine awp_ret ?_
     cases H
     exact ⟨trivial, .inl rfl, trivial⟩
    ·replace H := iff_ h17 H
     refine awp_skip ?_
     refine awp_seq ?_
     refine awp_joinE (ι := Bool) (fun i => [(5, .ptr 2 0), (50, .dat (vbool i))]) (fun i => [(2, .box none 35 [.dat (vstr x3.Key), .dat (vstr x3.Product), .dat (vint x3.Base), .dat (vint x3.Free), .dat (vlst (List.map C_api_Tier x3.Tiers)), .dat (vint x3.Limit), .dat (vint x3.Trial), .dat (vbool x3.Asked)])]) (fun i => portal_planFault_J2 x3 i = some r) (fun i => rfl) ?_ ?_
     ·skip
      refine awp_plain hN rfl ?_
      refine seq_run0 (stp_fldP tyF35_2 rfl) ?_
      refine seq_run1 (stp_load1 tyS3 rfl rfl) rfl ?_
      obtain ⟨r18, h19, H⟩ := bnd H
      refine seq_run0 (stp_call (k_kit_Outside x3.Base 0 1000000000000 r18 h19) ⟨.inl rfl, .inl rfl, .inl rfl, trivial⟩) ?_
      refine qd rfl ?_
      refine seq_split (j := 3) rfl rfl (fun h20 => ?_) (fun h20 => ?_) rfl
      ·have h21 := un3 h20
       replace H := iff_ h21 H
       refine seq_g0 rfl rfl h20 (stp_fldP tyF35_3 rfl) ?_
       refine seq_g1 rfl rfl h20 (stp_load1 tyS3 rfl rfl) rfl ?_
       obtain ⟨r22, h23, H⟩ := bnd H
       refine seq_g0 rfl rfl h20 (stp_call (k_kit_Outside x3.Free 0 1000000000000 r22 h23) ⟨.inl rfl, .inl rfl, .inl rfl, trivial⟩) ?_
       refine seq_run0 (stp_pick_f rfl (bFF h21) rfl) ?_
       exact ⟨r22, H, ⟨rfl, rfl, trivial⟩, ⟨rfl, trivial⟩⟩
      ·have h24 := un4 h20
       replace H := ift h24 H
       refine seq_skip rfl rfl h20 ?_
       refine seq_skip rfl rfl h20 ?_
       refine seq_skip rfl rfl h20 ?_
       refine seq_run0 (stp_pick_t rfl (bTT h24) rfl) ?_
       exact ⟨true, H, ⟨rfl, rfl, trivial⟩, ⟨rfl, trivial⟩⟩
     ·rintro v25 H
      replace H : portal_planFault_J2 x3 v25 = some r := H
      unfold portal_planFault_J2 at H
      refine awp_cond _ rfl (fun h26 => ?_) (fun h26 => ?_)
      ·replace H := ift h26 H
       refine awp_seq ?_
       refine awp_plain hN rfl ?_
       refine qe rfl ?_
       refine awp_ret ?_
       cases H
       exact ⟨trivial, .inl rfl, trivial⟩
      ·replace H := iff_ h26 H
       refine awp_skip ?_
       refine awp_seq ?_
       refine awp_seq ?_
       refine awp_plain hN rfl ?_
       refine seq_run0 (stp_fldP tyF35_4 rfl) ?_
       refine seq_run1 (stp_load1 tyS33 rfl rfl) rfl ?_
       obtain ⟨r27, h28, H⟩ := bnd H
       refine seq_run0 (stp_call (k_portal_tiersFault x3.Tiers r27 h28) ⟨.inl rfl, trivial⟩) ?_
       refine qe rfl ?_
       refine awp_seq ?_
       refine awp_plain hN rfl ?_
       refine qd rfl ?_
       refine seq_run0 (stp_neq rfl rfl) ?_
       refine awp_cond _ rfl (fun h29 => ?_) (fun h29 => ?_)
       ·replace H := ift h29 H
        refine awp_seq ?_
        refine awp_plain hN rfl ?_
        refine qd rfl ?_
        refine qe rfl ?_
        refine awp_ret ?_
        cases H
        exact ⟨trivial, .inl rfl, trivial⟩
       ·replace H := iff_ h29 H
        refine awp_skip ?_
        refine awp_seq ?_
        refine awp_joinE (ι := Bool) (fun i => [(64, .dat (vbool i))]) (fun i => []) (fun i => portal_planFault_J3 i = some r) (fun i => rfl) ?_ ?_
        ·skip
         refine awp_plain hN rfl ?_
         refine seq_run0 (stp_fldP tyF35_5 rfl) ?_
         refine seq_run1 (stp_load1 tyS3 rfl rfl) rfl ?_
         obtain ⟨r30, h31, H⟩ := bnd H
         refine seq_run0 (stp_call (k_kit_Outside x3.Limit (-1) 1000000000000 r30 h31) ⟨.inl rfl, .inl rfl, .inl rfl, trivial⟩) ?_
         refine qd rfl ?_
         refine seq_split (j := 3) rfl rfl (fun h32 => ?_) (fun h32 => ?_) rfl
         ·have h33 := un3 h32
          replace H := iff_ h33 H
          refine seq_g0 rfl rfl h32 (stp_fldP tyF35_6 rfl) ?_
          refine seq_g1 rfl rfl h32 (stp_load1 tyS3 rfl rfl) rfl ?_
          obtain ⟨r34, h35, H⟩ := bnd H
          refine seq_g0 rfl rfl h32 (stp_call (k_kit_Outside x3.Trial 0 132 r34 h35) ⟨.inl rfl, .inl rfl, .inl rfl, trivial⟩) ?_
          refine seq_run0 (stp_pick_f rfl (bFF h33) rfl) ?_
          exact ⟨r34, H, ⟨rfl, trivial⟩, trivial⟩
         ·have h36 := un4 h32
          replace H := ift h36 H
          refine seq_skip rfl rfl h32 ?_
          refine seq_skip rfl rfl h32 ?_
          refine seq_skip rfl rfl h32 ?_
          refine seq_run0 (stp_pick_t rfl (bTT h36) rfl) ?_
          exact ⟨true, H, ⟨rfl, trivial⟩, trivial⟩
        ·rintro v37 H
         replace H : portal_planFault_J3 v37 = some r := H
         unfold portal_planFault_J3 at H
         refine awp_cond _ rfl (fun h38 => ?_) (fun h38 => ?_)
         ·replace H := ift h38 H
          refine awp_seq ?_
          refine awp_plain hN rfl ?_
          refine qe rfl ?_
          refine awp_ret ?_
          cases H
          exact ⟨trivial, .inl rfl, trivial⟩
         ·replace H := iff_ h38 H
          refine awp_skip ?_
          refine awp_seq ?_
          refine awp_plain hN rfl ?_
          refine qe rfl ?_
          refine awp_ret ?_
          cases H
          exact ⟨trivial, .inl rfl, trivial⟩
theorem k_portal_CheckCatalog (c1 : S_api_Catalog) (r : (Int)) (H : m_portal_CheckCatalog c1 = some r) : Fn Tryd.prog 11 [vagg (C_api_Catalog c1)] (resOf [vint r]) := by
 refine ⟨by kernel_rfl, pure_of (us := [vint r]) Tryd.func11 rfl rfl rfl rfl fun X hN => ?_⟩
 unfold m_portal_CheckCatalog at H
 refine awp_seq ?_
 refine awp_plain hN rfl ?_
 refine seq_run2 (stp_boxA 1 rfl) rfl ?_
 refine qe rfl ?_
 refine awp_seq ?_
 refine awp_seq ?_
 refine awp_plain hN rfl ?_
 refine seq_run0 (stp_fldP tyF29_0 rfl) ?_
 refine seq_run1 (stp_load1 tyS26 rfl rfl) rfl ?_
 obtain ⟨r2, h3, H⟩ := bnd H
 refine seq_run0 (stp_call (k_portal_productsFault c1.Products r2 h3) ⟨.inl rfl, trivial⟩) ?_
 refine qe rfl ?_
 refine awp_seq ?_
 refine awp_plain hN rfl ?_
 refine qd rfl ?_
 refine seq_run0 (stp_neq rfl rfl) ?_
 refine awp_cond _ rfl (fun h4 => ?_) (fun h4 => ?_)
 ·replace H := ift h4 H
  refine awp_seq ?_
  refine awp_plain hN rfl ?_
  refine qd rfl ?_
  refine qe rfl ?_
  refine awp_ret ?_
  cases H
  exact ⟨trivial, .inl rfl, trivial⟩
 ·replace H := iff_ h4 H
  refine awp_skip ?_
  refine awp_seq ?_
  refine awp_seq ?_
  refine awp_plain hN rfl ?_
  refine seq_run0 (stp_fldP tyF29_1 rfl) ?_
  refine seq_run1 (stp_load1 tyS27 rfl rfl) rfl ?_
  refine seq_run0 (t_len tyU27 rfl) ?_
  refine seq_run0 (stp_gtr rfl rfl) ?_
  refine awp_cond _ rfl (fun h5 => ?_) (fun h5 => ?_)
  ·replace H := ift h5 H
   refine awp_seq ?_
   refine awp_plain hN rfl ?_
   refine qe rfl ?_
   refine awp_ret ?_
   cases H
   exact ⟨trivial, .inl rfl, trivial⟩
  ·replace H := iff_ h5 H
   refine awp_skip ?_
   refine awp_seq ?_
   refine awp_seq ?_
   refine awp_plain hN rfl ?_
   refine seq_run0 (stp_fldP tyF29_1 rfl) ?_
   refine seq_run1 (stp_load1 tyS27 rfl rfl) rfl ?_
   refine seq_run0 (t_len tyU27 rfl) ?_
   refine qd rfl ?_
   refine awp_block ?_
   obtain ⟨h8, H⟩ := gif H
   refine awp_forL (fun (k6 : Nat) (s : Unit) => [(1, .ptr 1 0), (18, .dat (vint (c1.Plans.length : Int))), (19, .dat (vint (k6 : Int)))]) (fun (k6 : Nat) (s : Unit) => [(1, .box none 29 [.dat (vlst (List.map C_api_Product c1.Products)), .dat (vlst (List.map C_api_Plan c1.Plans))])]) () H ⟨rfl, rfl, rfl, trivial⟩ ⟨rfl, trivial⟩ (fun _ _ => rfl) ?_ ?_
   ·rintro ⟨⟩ H
    replace H : portal_CheckCatalog_E1 = some r := H
    unfold portal_CheckCatalog_E1 at H
    refine awp_seq ?_
    refine awp_plain hN rfl ?_
    refine seq_run0 (stp_lss rfl rfl) ?_
    refine awp_seq ?_
    refine awp_cond _ rfl (fun h => (lt_t h).elim) (fun h => ?_)
    refine awp_exit ?_
    refine awp_seq ?_
    refine awp_plain hN rfl ?_
    refine qe rfl ?_
    refine awp_ret ?_
    cases H
    exact ⟨trivial, .inl rfl, trivial⟩
   ·rintro k6 x9 ⟨⟩ q7 h10 h11 H hq7
    replace H : portal_CheckCatalog_L1 c1 k6 x9 = some q7 := H
    unfold portal_CheckCatalog_L1 at H
    refine awp_seq ?_
    refine awp_plain hN rfl ?_
    refine seq_run0 (stp_lss rfl rfl) ?_
    refine awp_seq ?_
    refine awp_cond _ rfl (fun h => ?_) (fun h => (lt_f h10 h).elim)
    refine awp_skip ?_
    refine awp_seq ?_
    refine awp_block ?_
    refine awp_seq ?_
    refine awp_plain hN rfl ?_
    refine qd rfl ?_
    refine qe rfl ?_
    refine awp_seq ?_
    refine awp_plain hN rfl ?_
    refine seq_run1 (stp_loadA tyS29 rfl rfl rfl) rfl ?_
    refine qd rfl ?_
    obtain ⟨r12, h13, H⟩ := bnd H
    refine seq_run0 (stp_call (k_portal_planFault c1 (k6 : Int) r12 h13) ⟨.inl rfl, .inl rfl, trivial⟩) ?_
    refine qe rfl ?_
    refine awp_seq ?_
    refine awp_plain hN rfl ?_
    refine qd rfl ?_
    refine seq_run0 (stp_neq rfl rfl) ?_
    refine awp_cond _ rfl (fun h14 => ?_) (fun h14 => ?_)
    ·replace H := ift h14 H
     refine awp_seq ?_
     refine awp_plain hN rfl ?_
     refine qd rfl ?_
     refine qe rfl ?_
     refine awp_ret ?_
     replace H := retl H hq7
     cases H
     exact ⟨trivial, .inl rfl, trivial⟩
    ·replace H := iff_ h14 H
     refine awp_skip ?_
     refine awp_plain hN rfl ?_
     refine seq_run0 (stp_add rfl rfl (by omega)) ?_
     refine qd rfl ?_
     exact ⟨_, backl H, ⟨rfl, rfl, rfl, trivial⟩, ⟨rfl, trivial⟩⟩
theorem k_slices_BinarySearchFunc_L_api_Plan_api_Plan_string_ (x1 : (List S_api_Plan)) (target2 : Bs) (p2 : S_api_Plan → Bs → Option (Int)) (fv2 : Nat) (us2 : List V) (hp2 : ∀ a0 a1 r, p2 a0 a1 = some r → Fn Tryd.prog fv2 ([vagg (C_api_Plan a0), vstr a1] ++ us2) (resOf [vint r])) (r : (Int × Bool)) (H : m_slices_BinarySearchFunc_L_api_Plan_api_Plan_string_ x1 target2 p2 = some r) : Fn Tryd.prog 49 [vlst (List.map C_api_Plan x1), vstr target2, vfn fv2 us2] (resOf [vint r.1, vbool r.2]) := by
 refine ⟨by kernel_rfl, pure_of (us := [vint r.1, vbool r.2]) Tryd.func49 rfl rfl rfl rfl fun X hN => ?_⟩
 unfold m_slices_BinarySearchFunc_L_api_Plan_api_Plan_string_ at H
 refine awp_seq ?_
 refine awp_plain hN rfl ?_
 refine qe rfl ?_
 refine qe rfl ?_
 refine awp_seq ?_
 refine awp_plain hN rfl ?_
 refine qd rfl ?_
 refine seq_run0 (t_len tyU27 rfl) ?_
 refine qe rfl ?_
 refine awp_seq ?_
 refine awp_plain hN rfl ?_
 refine qd rfl ?_
 refine qe rfl ?_
 refine qe rfl ?_
 refine awp_joinE (ι := Int) (fun i => [(0, .dat (vlst (List.map C_api_Plan x1))), (1, .dat (vstr target2)), (2, .dat (vfn fv2 us2)), (8, .dat (vint (x1.length : Int))), (9, .dat (vint i))]) (fun i => []) (fun i => slices_BinarySearchFunc_L_api_Plan_api_Plan_string__J1 x1 target2 p2 i = some r) (fun i => rfl) ?_ ?_
 ·skip
  refine awp_block ?_
  refine awp_iter (fun (s : Int × Int) => [(0, .dat (vlst (List.map C_api_Plan x1))), (1, .dat (vstr target2)), (2, .dat (vfn fv2 us2)), (8, .dat (vint (x1.length : Int))), (9, .dat (vint s.1)), (10, .dat (vint s.2))]) (fun (s : Int × Int) => []) (0, (x1.length : Int)) H ⟨rfl, rfl, rfl, rfl, rfl, rfl, trivial⟩ trivial (fun _ => rfl) ?_
  rintro ⟨i3, j4⟩ q5 H hq5
  replace H : slices_BinarySearchFunc_L_api_Plan_api_Plan_string__L2 x1 target2 p2 i3 j4 = some q5 := H
  unfold slices_BinarySearchFunc_L_api_Plan_api_Plan_string__L2 at H
  refine awp_seq ?_
  refine awp_seq ?_
  refine awp_plain hN rfl ?_
  refine qd rfl ?_
  refine qd rfl ?_
  refine seq_run0 (stp_lss rfl rfl) ?_
  refine awp_cond _ rfl (fun h6 => ?_) (fun h6 => ?_)
  ·replace H := ift h6 H
   refine awp_skip ?_
   refine awp_block ?_
   refine awp_seq ?_
   refine awp_plain hN rfl ?_
   refine qd rfl ?_
   refine qd rfl ?_
   refine seq_run0 (stp_wrap _ rfl rfl (.inl ⟨rfl, rfl⟩)) ?_
   refine seq_run0 (stp_conv tyU3 tyU96 rfl) ?_
   refine seq_run0 (stp_dat (stp_shr rfl rfl (by decide)) rfl) ?_
   refine seq_run0 (stp_conv tyU96 tyU3 rfl) ?_
   refine qe rfl ?_
   refine awp_seq ?_
   refine awp_plain hN rfl ?_
   refine qd rfl ?_
   refine qd rfl ?_
   refine qd rfl ?_
   obtain ⟨x7, h8, H⟩ := bnd H
   refine seq_run0 (t_idxI tyE27 (fun _ => rfl) rfl rfl h8) ?_
   refine seq_run0 (stp_loadEA tyS35 rfl (map_at (at_some h8).2) rfl) ?_
   refine qd rfl ?_
   obtain ⟨r9, h10, H⟩ := bnd H
   refine seq_run0 (stp_callv (hp2 x7 target2 r9 h10) rfl ⟨.inl rfl, .inl rfl, trivial⟩) ?_
   refine seq_run0 (stp_lss rfl rfl) ?_
   refine awp_cond _ rfl (fun h11 => ?_) (fun h11 => ?_)
   ·replace H := ift h11 H
    refine awp_plain hN rfl ?_
    refine qd rfl ?_
    refine seq_run0 (stp_wrap _ rfl rfl (.inl ⟨rfl, rfl⟩)) ?_
    refine qe rfl ?_
    exact ⟨_, backl H, ⟨rfl, rfl, rfl, rfl, rfl, rfl, trivial⟩, trivial⟩
   ·replace H := iff_ h11 H
    refine awp_plain hN rfl ?_
    refine qd rfl ?_
    refine qe rfl ?_
    exact ⟨_, backl H, ⟨rfl, rfl, rfl, rfl, rfl, rfl, trivial⟩, trivial⟩
  ·replace H := iff_ h6 H
   refine awp_exit ?_
   replace H := outl H hq5
   exact ⟨i3, H, ⟨rfl, rfl, rfl, rfl, rfl, trivial⟩, trivial⟩
 ·rintro i12 H
  replace H : slices_BinarySearchFunc_L_api_Plan_api_Plan_string__J1 x1 target2 p2 i12 = some r := H
  unfold slices_BinarySearchFunc_L_api_Plan_api_Plan_string__J1 at H
  refine awp_joinE (ι := Bool) (fun i => [(6, .dat (vint i12)), (7, .dat (vbool i))]) (fun i => []) (fun i => slices_BinarySearchFunc_L_api_Plan_api_Plan_string__J3 i12 i = some r) (fun i => rfl) ?_ ?_
  ·skip
   refine awp_plain hN rfl ?_
   refine qd rfl ?_
   refine qd rfl ?_
   refine qd rfl ?_
   refine seq_run0 (stp_lss rfl rfl) ?_
   refine qd rfl ?_
   refine seq_split (j := 4) rfl rfl (fun h13 => ?_) (fun h13 => ?_) rfl
   ·have h14 := un1 h13
    replace H := ift h14 H
    refine seq_g0 rfl rfl h13 (stp_move (.dat _) rfl) ?_
    refine seq_g0 rfl rfl h13 (stp_move (.dat _) rfl) ?_
    refine seq_g0 rfl rfl h13 (stp_move (.dat _) rfl) ?_
    obtain ⟨x15, h16, H⟩ := bnd H
    refine seq_g0 rfl rfl h13 (t_idxI tyE27 (fun _ => rfl) rfl rfl h16) ?_
    refine seq_g0 rfl rfl h13 (stp_loadEA tyS35 rfl (map_at (at_some h16).2) rfl) ?_
    refine seq_g0 rfl rfl h13 (stp_move (.dat _) rfl) ?_
    obtain ⟨r17, h18, H⟩ := bnd H
    refine seq_g0 rfl rfl h13 (stp_callv (hp2 x15 target2 r17 h18) rfl ⟨.inl rfl, .inl rfl, trivial⟩) ?_
    refine seq_g0 rfl rfl h13 (stp_eql rfl rfl) ?_
    refine seq_run0 (stp_pick_t rfl (bTT h14) rfl) ?_
    refine qe rfl ?_
    refine qe rfl ?_
    exact ⟨decide (r17 = 0), H, ⟨rfl, rfl, trivial⟩, trivial⟩
   ·have h19 := un2 h13
    replace H := iff_ h19 H
    refine seq_skip rfl rfl h13 ?_
    refine seq_skip rfl rfl h13 ?_
    refine seq_skip rfl rfl h13 ?_
    refine seq_skip rfl rfl h13 ?_
    refine seq_skip rfl rfl h13 ?_
    refine seq_skip rfl rfl h13 ?_
    refine seq_skip rfl rfl h13 ?_
    refine seq_skip rfl rfl h13 ?_
    refine seq_run0 (stp_pick_f rfl (bFF h19) rfl) ?_
    refine qe rfl ?_
    refine qe rfl ?_
    exact ⟨false, H, ⟨rfl, rfl, trivial⟩, trivial⟩
  ·rintro v20 H
   replace H : slices_BinarySearchFunc_L_api_Plan_api_Plan_string__J3 i12 v20 = some r := H
   unfold slices_BinarySearchFunc_L_api_Plan_api_Plan_string__J3 at H
   refine awp_ret ?_
   cases H
   exact ⟨trivial, .inl rfl, .inl rfl, trivial⟩
theorem k_portal_planOf_1 (p1 : S_api_Plan) (k2 : Bs) (r : (Int)) (H : m_portal_planOf_1 p1 k2 = some r) : Fn Tryd.prog 50 [vagg (C_api_Plan p1), vstr k2] (resOf [vint r]) := by
 refine ⟨by kernel_rfl, pure_of (us := [vint r]) Tryd.func50 rfl rfl rfl rfl fun X hN => ?_⟩
 unfold m_portal_planOf_1 at H
 refine awp_seq ?_
 refine awp_plain hN rfl ?_
 refine seq_run2 (stp_boxA 1 rfl) rfl ?_
 refine qe rfl ?_
 refine awp_seq ?_
 refine awp_plain hN rfl ?_
 refine seq_run0 (stp_fldP tyF35_0 rfl) ?_
 refine seq_run1 (stp_load1 tyS9 rfl rfl) rfl ?_
 refine qd rfl ?_
 obtain ⟨r3, h4, H⟩ := bnd H
 refine seq_run0 (stp_call (k_strings_Compare p1.Key k2 r3 h4) ⟨.inl rfl, .inl rfl, trivial⟩) ?_
 refine qe rfl ?_
 refine awp_ret ?_
 cases H
 exact ⟨trivial, .inl rfl, trivial⟩
theorem k_portal_planOf (c1 : S_api_Catalog) (key2 : Bs) (r : (S_api_Plan × Bool)) (H : m_portal_planOf c1 key2 = some r) : Fn Tryd.prog 29 [vagg (C_api_Catalog c1), vstr key2] (resOf [vagg (C_api_Plan r.1), vbool r.2]) := by
 refine ⟨by kernel_rfl, pure_of (us := [vagg (C_api_Plan r.1), vbool r.2]) Tryd.func29 rfl rfl rfl rfl fun X hN => ?_⟩
 unfold m_portal_planOf at H
 refine awp_seq ?_
 refine awp_plain hN rfl ?_
 refine seq_run2 (stp_boxA 1 rfl) rfl ?_
 refine seq_run2 (stp_alloc 2 tyZ35 rfl) rfl ?_
 refine qe rfl ?_
 refine awp_seq ?_
 refine awp_plain hN rfl ?_
 refine seq_run0 (stp_fldP tyF29_1 rfl) ?_
 refine seq_run1 (stp_load1 tyS27 rfl rfl) rfl ?_
 refine qd rfl ?_
 obtain ⟨r3, h4, H⟩ := bnd H
 refine seq_run0 (stp_callW (k_slices_BinarySearchFunc_L_api_Plan_api_Plan_string_ c1.Plans key2 (fun (a0 : S_api_Plan) (a1 : Bs) => m_portal_planOf_1 a0 a1) 50 [] (fun a0 a1 r h => k_portal_planOf_1 a0 a1 r h) r3 h4) ⟨.inl (.inl rfl), .inl (.inl rfl), .inr ⟨_, rfl, rfl⟩, trivial⟩) ?_
 refine qd rfl ?_
 refine seq_run0 (stp_ext rfl rfl) ?_
 refine seq_run0 (stp_ext rfl rfl) ?_
 refine qe rfl ?_
 refine qe rfl ?_
 refine awp_seq ?_
 refine awp_seq ?_
 refine awp_plain hN rfl ?_
 refine qd rfl ?_
 refine seq_run0 (stp_not rfl) ?_
 refine awp_cond _ rfl (fun h5 => ?_) (fun h5 => ?_)
 ·replace H := ift h5 H
  refine awp_seq ?_
  refine awp_plain hN rfl ?_
  refine seq_run0 (stp_wk (u' := vagg (C_api_Plan (S_api_Plan.mk [] [] 0 0 [] 0 0 false))) (wk_agg (by exact ⟨wk_rfl, wk_rfl, wk_rfl, wk_rfl, wk_nil, wk_rfl, wk_rfl, wk_rfl, trivial⟩)) (stp_build [] tyZ35 tyP35 rfl trivial)) ?_
  refine seq_run2 (stp_storeW tyS35 rfl rfl rfl rfl) rfl ?_
  refine qe rfl ?_
  refine awp_ret ?_
  cases H
  exact ⟨trivial, .inl ⟨_, _, _, C_api_Plan (S_api_Plan.mk [] [] 0 0 [] 0 0 false), rfl, rfl, rfl, rfl, tyS35⟩, .inl rfl, trivial⟩
 ·replace H := iff_ h5 H
  refine awp_skip ?_
  refine awp_seq ?_
  refine awp_plain hN rfl ?_
  refine seq_run0 (stp_fldP tyF29_1 rfl) ?_
  refine seq_run1 (stp_load1 tyS27 rfl rfl) rfl ?_
  refine qd rfl ?_
  obtain ⟨x6, h7, H⟩ := bnd H
  refine seq_run0 (t_idxI tyE27 (fun _ => rfl) rfl rfl h7) ?_
  refine seq_run0 (stp_loadEA tyS35 rfl (map_at (at_some h7).2) rfl) ?_
  refine seq_run2 (stp_storeW tyS35 rfl rfl rfl rfl) rfl ?_
  refine qe rfl ?_
  refine awp_ret ?_
  cases H
  exact ⟨trivial, .inl ⟨_, _, _, C_api_Plan x6, rfl, rfl, rfl, rfl, tyS35⟩, .inl rfl, trivial⟩
theorem k_portal_price (p1 : S_api_Plan) (calls2 : Int) (r : (Int)) (H : m_portal_price p1 calls2 = some r) : Fn Tryd.prog 32 [vagg (C_api_Plan p1), vint calls2] (resOf [vint r]) := by
 refine ⟨by kernel_rfl, pure_of (us := [vint r]) Tryd.func32 rfl rfl rfl rfl fun X hN => ?_⟩
 unfold m_portal_price at H
 refine awp_seq ?_
 refine awp_plain hN rfl ?_
 refine seq_run2 (stp_boxA 1 rfl) rfl ?_
 refine qe rfl ?_
 refine awp_seq ?_
 refine awp_plain hN rfl ?_
 refine qd rfl ?_
 refine seq_run0 (stp_fldP tyF35_3 rfl) ?_
 refine seq_run1 (stp_load1 tyS3 rfl rfl) rfl ?_
 refine seq_run0 (stp_wrap _ rfl rfl (.inr (.inl ⟨rfl, rfl⟩))) ?_
 refine seq_run0 (stp_max rfl rfl) ?_
 refine qe rfl ?_
 refine awp_seq ?_
 refine awp_plain hN rfl ?_
 refine qe rfl ?_
 refine awp_seq ?_
 refine awp_seq ?_
 refine awp_plain hN rfl ?_
 refine seq_run0 (stp_fldP tyF35_4 rfl) ?_
 refine seq_run1 (stp_load1 tyS33 rfl rfl) rfl ?_
 refine seq_run0 (t_len tyU33 rfl) ?_
 refine qd rfl ?_
 refine awp_block ?_
 obtain ⟨h6, H⟩ := gif H
 refine awp_forL (fun (k4 : Nat) (s : Int) => [(2, .ptr 1 0), (5, .dat (vint (max 0 (wr (calls2 - p1.Free))))), (6, .dat (vint s)), (16, .dat (vlst (List.map C_api_Tier p1.Tiers))), (17, .dat (vint (p1.Tiers.length : Int))), (18, .dat (vint (k4 : Int)))]) (fun (k4 : Nat) (s : Int) => [(1, .box none 35 [.dat (vstr p1.Key), .dat (vstr p1.Product), .dat (vint p1.Base), .dat (vint p1.Free), .dat (vlst (List.map C_api_Tier p1.Tiers)), .dat (vint p1.Limit), .dat (vint p1.Trial), .dat (vbool p1.Asked)])]) 0 H ⟨rfl, rfl, rfl, rfl, rfl, rfl, trivial⟩ ⟨rfl, trivial⟩ (fun _ _ => rfl) ?_ ?_
 ·rintro sum3 H
  replace H : portal_price_E1 sum3 = some r := H
  unfold portal_price_E1 at H
  refine awp_seq ?_
  refine awp_plain hN rfl ?_
  refine seq_run0 (stp_lss rfl rfl) ?_
  refine awp_seq ?_
  refine awp_cond _ rfl (fun h => (lt_t h).elim) (fun h => ?_)
  refine awp_exit ?_
  refine awp_seq ?_
  refine awp_plain hN rfl ?_
  refine qd rfl ?_
  obtain ⟨h8, H⟩ := gif H
  refine seq_run0 (stp_quo rfl rfl h8.1 h8.2) ?_
  refine qe rfl ?_
  refine awp_ret ?_
  cases H
  exact ⟨trivial, .inl rfl, trivial⟩
 ·rintro k4 x7 sum3 q5 h9 h10 H hq5
  replace H : portal_price_L1 p1 calls2 k4 x7 sum3 = some q5 := H
  unfold portal_price_L1 at H
  refine awp_seq ?_
  refine awp_plain hN rfl ?_
  refine seq_run0 (stp_lss rfl rfl) ?_
  refine awp_seq ?_
  refine awp_cond _ rfl (fun h => ?_) (fun h => (lt_f h9 h).elim)
  refine awp_skip ?_
  refine awp_seq ?_
  refine awp_block ?_
  refine awp_seq ?_
  refine awp_plain hN rfl ?_
  refine qd rfl ?_
  refine seq_run0 (t_idx tyE33 (fun _ => rfl) rfl rfl h10) ?_
  refine seq_run0 (stp_loadEA tyS62 rfl (map_at h10) rfl) ?_
  refine seq_run2 (stp_alloc 2 tyZ62 rfl) rfl ?_
  refine qe rfl ?_
  refine seq_run2 (stp_storeW tyS62 rfl rfl rfl rfl) rfl ?_
  refine awp_seq ?_
  refine awp_plain hN rfl ?_
  refine qd rfl ?_
  refine qe rfl ?_
  refine awp_joinE (ι := Int) (fun i => [(2, .ptr 1 0), (5, .dat (vint (max 0 (wr (calls2 - p1.Free))))), (6, .dat (vint sum3)), (8, .ptr 2 0), (9, .dat (vint i)), (16, .dat (vlst (List.map C_api_Tier p1.Tiers))), (17, .dat (vint (p1.Tiers.length : Int))), (18, .dat (vint (k4 : Int)))]) (fun i => [(1, .box none 35 [.dat (vstr p1.Key), .dat (vstr p1.Product), .dat (vint p1.Base), .dat (vint p1.Free), .dat (vlst (List.map C_api_Tier p1.Tiers)), .dat (vint p1.Limit), .dat (vint p1.Trial), .dat (vbool p1.Asked)]), (2, .box none 62 [.dat (vint x7.From), .dat (vint x7.Cents)])]) (fun i => portal_price_J2 sum3 x7 i = some q5) (fun i => rfl) ?_ ?_
  ·skip
   refine awp_seq ?_
   refine awp_plain hN rfl ?_
   refine qd rfl ?_
   refine seq_run0 (stp_add rfl rfl (by omega)) ?_
   refine seq_run0 (stp_fldP tyF35_4 rfl) ?_
   refine seq_run1 (stp_load1 tyS33 rfl rfl) rfl ?_
   refine seq_run0 (t_len tyU33 rfl) ?_
   refine seq_run0 (stp_lss rfl rfl) ?_
   refine awp_cond _ rfl (fun h11 => ?_) (fun h11 => ?_)
   ·replace H := ift h11 H
    refine awp_plain hN rfl ?_
    refine qd rfl ?_
    refine seq_run0 (stp_fldP tyF35_4 rfl) ?_
    refine seq_run1 (stp_load1 tyS33 rfl rfl) rfl ?_
    refine qd rfl ?_
    refine seq_run0 (stp_add rfl rfl (by omega)) ?_
    obtain ⟨x12, h13, H⟩ := bnd H
    refine seq_run0 (t_idx tyE33 (fun _ => rfl) rfl rfl h13) ?_
    refine seq_run0 (stp_fldE tyF62_0 rfl) ?_
    refine seq_run0 (stp_loadE1 tyS3 rfl (map_at h13) rfl) ?_
    refine seq_run0 (stp_wrap _ rfl rfl (.inr (.inl ⟨rfl, rfl⟩))) ?_
    refine seq_run0 (stp_min rfl rfl) ?_
    refine qe rfl ?_
    exact ⟨(min (max 0 (wr (calls2 - p1.Free))) (wr (x12.From - 1))), H, ⟨rfl, rfl, rfl, rfl, rfl, rfl, rfl, rfl, trivial⟩, ⟨rfl, rfl, trivial⟩⟩
   ·replace H := iff_ h11 H
    refine awp_skip ?_
    exact ⟨(max 0 (wr (calls2 - p1.Free))), H, ⟨rfl, rfl, rfl, rfl, rfl, rfl, rfl, rfl, trivial⟩, ⟨rfl, rfl, trivial⟩⟩
  ·rintro to14 H
   replace H : portal_price_J2 sum3 x7 to14 = some q5 := H
   unfold portal_price_J2 at H
   refine awp_plain hN rfl ?_
   refine qd rfl ?_
   refine qd rfl ?_
   refine seq_run0 (stp_fldP tyF62_0 rfl) ?_
   refine seq_run1 (stp_load1 tyS3 rfl rfl) rfl ?_
   refine seq_run0 (stp_wrap _ rfl rfl (.inr (.inl ⟨rfl, rfl⟩))) ?_
   refine seq_run0 (stp_wrap _ rfl rfl (.inl ⟨rfl, rfl⟩)) ?_
   refine seq_run0 (stp_max rfl rfl) ?_
   refine seq_run0 (stp_fldP tyF62_1 rfl) ?_
   refine seq_run1 (stp_load1 tyS3 rfl rfl) rfl ?_
   refine seq_run0 (stp_wrap _ rfl rfl (.inr (.inr ⟨rfl, rfl⟩))) ?_
   refine seq_run0 (stp_wrap _ rfl rfl (.inl ⟨rfl, rfl⟩)) ?_
   refine qe rfl ?_
   refine awp_plain hN rfl ?_
   refine seq_run0 (stp_add rfl rfl (by omega)) ?_
   refine qd rfl ?_
   exact ⟨_, backl H, ⟨rfl, rfl, rfl, rfl, rfl, rfl, trivial⟩, ⟨rfl, trivial⟩⟩
theorem k_portal_Price (c1 : S_api_Catalog) (plan2 : Bs) (calls3 : Int) (r : (Int × Int)) (H : m_portal_Price c1 plan2 calls3 = some r) : Fn Tryd.prog 9 [vagg (C_api_Catalog c1), vstr plan2, vint calls3] (resOf [vint r.1, vint r.2]) := by
 refine ⟨by kernel_rfl, pure_of (us := [vint r.1, vint r.2]) Tryd.func9 rfl rfl rfl rfl fun X hN => ?_⟩
 unfold m_portal_Price at H
 refine awp_seq ?_
 refine awp_plain hN rfl ?_
 refine seq_run2 (stp_boxA 1 rfl) rfl ?_
 refine qe rfl ?_
 refine qe rfl ?_
 refine awp_seq ?_
 refine awp_seq ?_
 refine awp_plain hN rfl ?_
 refine seq_run1 (stp_loadA tyS29 rfl rfl rfl) rfl ?_
 obtain ⟨r4, h5, H⟩ := bnd H
 refine seq_run0 (stp_call (k_portal_CheckCatalog c1 r4 h5) ⟨.inl rfl, trivial⟩) ?_
 refine qe rfl ?_
 refine awp_seq ?_
 refine awp_plain hN rfl ?_
 refine qd rfl ?_
 refine seq_run0 (stp_neq rfl rfl) ?_
 refine awp_cond _ rfl (fun h6 => ?_) (fun h6 => ?_)
 ·replace H := ift h6 H
  refine awp_seq ?_
  refine awp_plain hN rfl ?_
  refine qd rfl ?_
  refine qe rfl ?_
  refine qe rfl ?_
  refine awp_ret ?_
  cases H
  exact ⟨trivial, .inl rfl, .inl rfl, trivial⟩
 ·replace H := iff_ h6 H
  refine awp_skip ?_
  refine awp_seq ?_
  refine awp_plain hN rfl ?_
  refine seq_run1 (stp_loadA tyS29 rfl rfl rfl) rfl ?_
  refine qd rfl ?_
  obtain ⟨r7, h8, H⟩ := bnd H
  refine seq_run0 (stp_call (k_portal_planOf c1 plan2 r7 h8) ⟨.inl rfl, .inl rfl, trivial⟩) ?_
  refine qd rfl ?_
  refine seq_run0 (stp_ext rfl rfl) ?_
  refine seq_run0 (stp_ext rfl rfl) ?_
  refine seq_run2 (stp_alloc 2 tyZ35 rfl) rfl ?_
  refine seq_run2 (stp_storeW tyS35 rfl rfl rfl rfl) rfl ?_
  refine qe rfl ?_
  refine awp_seq ?_
  refine awp_seq ?_
  refine awp_plain hN rfl ?_
  refine qd rfl ?_
  refine seq_run0 (stp_not rfl) ?_
  refine awp_cond _ rfl (fun h9 => ?_) (fun h9 => ?_)
  ·replace H := ift h9 H
   refine awp_seq ?_
   refine awp_plain hN rfl ?_
   refine qe rfl ?_
   refine qe rfl ?_
   refine awp_ret ?_
   cases H
   exact ⟨trivial, .inl rfl, .inl rfl, trivial⟩
  ·replace H := iff_ h9 H
   refine awp_skip ?_
   refine awp_seq ?_
   refine awp_seq ?_
   refine awp_plain hN rfl ?_
   refine qd rfl ?_
   obtain ⟨r10, h11, H⟩ := bnd H
   refine seq_run0 (stp_call (k_kit_Outside calls3 0 1000000000000 r10 h11) ⟨.inl rfl, .inl rfl, .inl rfl, trivial⟩) ?_
   refine awp_cond _ rfl (fun h12 => ?_) (fun h12 => ?_)
   ·replace H := ift h12 H
    refine awp_seq ?_
    refine awp_plain hN rfl ?_
    refine qe rfl ?_
    refine qe rfl ?_
    refine awp_ret ?_
    cases H
    exact ⟨trivial, .inl rfl, .inl rfl, trivial⟩
   ·replace H := iff_ h12 H
    refine awp_skip ?_
    refine awp_seq ?_
    refine awp_plain hN rfl ?_
    refine seq_run1 (stp_loadA tyS35 rfl rfl rfl) rfl ?_
    refine qd rfl ?_
    obtain ⟨r13, h14, H⟩ := bnd H
    refine seq_run0 (stp_call (k_portal_price r7.1 calls3 r13 h14) ⟨.inl rfl, .inl rfl, trivial⟩) ?_
    refine qe rfl ?_
    refine qe rfl ?_
    refine awp_ret ?_
    cases H
    exact ⟨trivial, .inl rfl, .inl rfl, trivial⟩
theorem k_gateref2_in (n1 : Int) (low2 : Int) (high3 : Int) (r : (Bool)) (H : m_gateref2_in n1 low2 high3 = some r) : Fn Tryd.prog 52 [vint n1, vint low2, vint high3] (resOf [vbool r]) := by
 refine ⟨by kernel_rfl, pure_of (us := [vbool r]) Tryd.func52 rfl rfl rfl rfl fun X hN => ?_⟩
 unfold m_gateref2_in at H
 refine awp_seq ?_
 refine awp_plain hN rfl ?_
 refine qe rfl ?_
 refine awp_seq ?_
 refine awp_plain hN rfl ?_
 refine qd rfl ?_
 refine qd rfl ?_
 refine seq_run0 (stp_leq rfl rfl) ?_
 refine qd rfl ?_
 refine seq_aT rfl rfl (fun hc => stp_move (.dat _) rfl) ?_
 refine seq_aT rfl rfl (fun hc => stp_move (.dat _) rfl) ?_
 refine seq_aT rfl rfl (fun hc => stp_leq (cnd (c := (decide (low2 ≤ n1))) hc) (cnd (c := (decide (low2 ≤ n1))) hc)) ?_
 refine seq_run0 (stp_pick_and rfl (fun hb => (cnd (c := (decide (low2 ≤ n1))) hb)) rfl) ?_
 refine qe rfl ?_
 refine awp_ret ?_
 cases H
 exact ⟨trivial, .inl rfl, trivial⟩
theorem k_strings_IndexByte (l : Bs) (c r : Int) (H : m_strings_IndexByte l c = some r) : Fn Tryd.prog 63 [vstr l, vval (.int .u8 c)] (resOf [vint r]) := by
 cases H
 refine fn_of_calls (by kernel_rfl) fun M w vs h => ?_
 have h1 := Ts_vals (us := [.string ⟨l.toArray⟩, .int .u8 c]) h
 subst h1
 refine (Tryd.strings_IndexByte ⟨l.toArray⟩ c w).mono ?_
 rintro e w' ⟨rfl, rfl⟩
 exact ⟨_, rfl, rfl, Kp.refl _ _⟩
theorem k_gateref2_only (s1 : Bs) (some2 : Bs) (r : (Bool)) (H : m_gateref2_only s1 some2 = some r) : Fn Tryd.prog 53 [vstr s1, vstr some2] (resOf [vbool r]) := by
 refine ⟨by kernel_rfl, pure_of (us := [vbool r]) Tryd.func53 rfl rfl rfl rfl fun X hN => ?_⟩
 unfold m_gateref2_only at H
 refine awp_seq ?_
 refine awp_plain hN rfl ?_
 refine qe rfl ?_
 refine awp_seq ?_
 refine awp_seq ?_
 refine awp_plain hN rfl ?_
 refine qd rfl ?_
 refine seq_run0 (stp_len_str tyU9 rfl) ?_
 refine qd rfl ?_
 refine awp_block ?_
 obtain ⟨h5, H⟩ := gif H
 refine awp_forL (fun (k3 : Nat) (s : Unit) => [(0, .dat (vstr s1)), (1, .dat (vstr some2)), (7, .dat (vint (s1.length : Int))), (8, .dat (vint (k3 : Int)))]) (fun (k3 : Nat) (s : Unit) => []) () H ⟨rfl, rfl, rfl, rfl, trivial⟩ trivial (fun _ _ => rfl) ?_ ?_
 ·rintro ⟨⟩ H
  replace H : gateref2_only_E1 = some r := H
  unfold gateref2_only_E1 at H
  refine awp_seq ?_
  refine awp_plain hN rfl ?_
  refine seq_run0 (stp_lss rfl rfl) ?_
  refine awp_seq ?_
  refine awp_cond _ rfl (fun h => (lt_t h).elim) (fun h => ?_)
  refine awp_exit ?_
  refine awp_seq ?_
  refine awp_plain hN rfl ?_
  refine qe rfl ?_
  refine awp_ret ?_
  cases H
  exact ⟨trivial, .inl rfl, trivial⟩
 ·rintro k3 x6 ⟨⟩ q4 h7 h8 H hq4
  replace H : gateref2_only_L1 some2 k3 x6 = some q4 := H
  unfold gateref2_only_L1 at H
  refine awp_seq ?_
  refine awp_plain hN rfl ?_
  refine seq_run0 (stp_lss rfl rfl) ?_
  refine awp_seq ?_
  refine awp_cond _ rfl (fun h => ?_) (fun h => (lt_f h7 h).elim)
  refine awp_skip ?_
  refine awp_seq ?_
  refine awp_block ?_
  refine awp_seq ?_
  refine awp_plain hN rfl ?_
  refine qd rfl ?_
  refine qe rfl ?_
  refine awp_seq ?_
  refine awp_plain hN rfl ?_
  refine qd rfl ?_
  refine qd rfl ?_
  refine qd rfl ?_
  refine seq_run0 (t_byte tyU9 rfl rfl h8) ?_
  obtain ⟨r9, h10, H⟩ := bnd H
  refine seq_run0 (stp_call (k_strings_IndexByte some2 (x6.toNat : Int) r9 h10) ⟨.inl rfl, .inl rfl, trivial⟩) ?_
  refine seq_run0 (stp_lss rfl rfl) ?_
  refine awp_cond _ rfl (fun h11 => ?_) (fun h11 => ?_)
  ·replace H := ift h11 H
   refine awp_seq ?_
   refine awp_plain hN rfl ?_
   refine qe rfl ?_
   refine awp_ret ?_
   replace H := retl H hq4
   cases H
   exact ⟨trivial, .inl rfl, trivial⟩
  ·replace H := iff_ h11 H
   refine awp_skip ?_
   refine awp_plain hN rfl ?_
   refine seq_run0 (stp_add rfl rfl (by omega)) ?_
   refine qd rfl ?_
   exact ⟨_, backl H, ⟨rfl, rfl, rfl, rfl, trivial⟩, trivial⟩
theorem k_gateref2_Key (s1 : Bs) (r : (Bool)) (H : m_gateref2_Key s1 = some r) : Fn Tryd.prog 33 [vstr s1] (resOf [vbool r]) := by
 refine ⟨by kernel_rfl, pure_of (us := [vbool r]) Tryd.func33 rfl rfl rfl rfl fun X hN => ?_⟩
 unfold m_gateref2_Key at H
 refine awp_seq ?_
 refine awp_plain hN rfl ?_
 refine qe rfl ?_
 refine awp_joinE (ι := Bool) (fun i => [(2, .dat (vbool i))]) (fun i => []) (fun i => gateref2_Key_J1 i = some r) (fun i => rfl) ?_ ?_
 ·skip
  refine awp_plain hN rfl ?_
  refine qd rfl ?_
  refine seq_run0 (stp_len_str tyU9 rfl) ?_
  obtain ⟨r2, h3, H⟩ := bnd H
  refine seq_run0 (stp_call (k_gateref2_in (s1.length : Int) 1 40 r2 h3) ⟨.inl rfl, .inl rfl, .inl rfl, trivial⟩) ?_
  refine qd rfl ?_
  refine seq_split (j := 3) rfl rfl (fun h4 => ?_) (fun h4 => ?_) rfl
  ·have h5 := un1 h4
   replace H := ift h5 H
   refine seq_g0 rfl rfl h4 (stp_move (.dat _) rfl) ?_
   obtain ⟨l6, h7, H⟩ := bnd H
   refine seq_g0 rfl rfl h4 (t_subS tyU9 rfl rfl rfl h7) ?_
   obtain ⟨r8, h9, H⟩ := bnd H
   refine seq_g0 rfl rfl h4 (stp_call (k_gateref2_only l6 [97, 98, 99, 100, 101, 102, 103, 104, 105, 106, 107, 108, 109, 110, 111, 112, 113, 114, 115, 116, 117, 118, 119, 120, 121, 122] r8 h9) ⟨.inl rfl, .inl rfl, trivial⟩) ?_
   refine seq_run0 (stp_pick_t rfl (bTT h5) rfl) ?_
   refine qd rfl ?_
   refine seq_split (j := 8) rfl rfl (fun h10 => ?_) (fun h10 => ?_) rfl
   ·have h11 := un1 h10
    replace H := ift h11 H
    refine seq_g0 rfl rfl h10 (stp_move (.dat _) rfl) ?_
    obtain ⟨r12, h13, H⟩ := bnd H
    refine seq_g0 rfl rfl h10 (stp_call (k_gateref2_only s1 [97, 98, 99, 100, 101, 102, 103, 104, 105, 106, 107, 108, 109, 110, 111, 112, 113, 114, 115, 116, 117, 118, 119, 120, 121, 122, 48, 49, 50, 51, 52, 53, 54, 55, 56, 57, 45, 95] r12 h13) ⟨.inl rfl, .inl rfl, trivial⟩) ?_
    refine seq_run0 (stp_pick_t rfl (bTT h11) rfl) ?_
    refine qe rfl ?_
    exact ⟨r12, H, ⟨rfl, trivial⟩, trivial⟩
   ·have h14 := un2 h10
    replace H := iff_ h14 H
    refine seq_skip rfl rfl h10 ?_
    refine seq_skip rfl rfl h10 ?_
    refine seq_run0 (stp_pick_f rfl (bFF h14) rfl) ?_
    refine qe rfl ?_
    exact ⟨false, H, ⟨rfl, trivial⟩, trivial⟩
  ·have h15 := un2 h4
   replace H := iff_ h15 H
   refine seq_skip rfl rfl h4 ?_
   refine seq_skip rfl rfl h4 ?_
   refine seq_skip rfl rfl h4 ?_
   refine seq_run0 (stp_pick_f rfl (bFF h15) rfl) ?_
   refine qd rfl ?_
   refine seq_skip rfl rfl rfl ?_
   refine seq_skip rfl rfl rfl ?_
   refine seq_run0 (stp_pick_f rfl rfl rfl) ?_
   refine qe rfl ?_
   exact ⟨false, H, ⟨rfl, trivial⟩, trivial⟩
 ·rintro v16 H
  replace H : gateref2_Key_J1 v16 = some r := H
  unfold gateref2_Key_J1 at H
  refine awp_ret ?_
  cases H
  exact ⟨trivial, .inl rfl, trivial⟩
theorem k_slices_IndexFunc_L_api_Product_api_Product_ (s1 : (List S_api_Product)) (p1 : S_api_Product → Option (Bool)) (fv1 : Nat) (us1 : List V) (hp1 : ∀ a0 r, p1 a0 = some r → Fn Tryd.prog fv1 ([vagg (C_api_Product a0)] ++ us1) (resOf [vbool r])) (r : (Int)) (H : m_slices_IndexFunc_L_api_Product_api_Product_ s1 p1 = some r) : Fn Tryd.prog 43 [vlst (List.map C_api_Product s1), vfn fv1 us1] (resOf [vint r]) := by
 refine ⟨by kernel_rfl, pure_of (us := [vint r]) Tryd.func43 rfl rfl rfl rfl fun X hN => ?_⟩
 unfold m_slices_IndexFunc_L_api_Product_api_Product_ at H
 refine awp_seq ?_
 refine awp_plain hN rfl ?_
 refine qe rfl ?_
 refine awp_seq ?_
 refine awp_seq ?_
 refine awp_plain hN rfl ?_
 refine qd rfl ?_
 refine seq_run0 (t_len tyU26 rfl) ?_
 refine qd rfl ?_
 refine awp_block ?_
 obtain ⟨h4, H⟩ := gif H
 refine awp_forL (fun (k2 : Nat) (s : Unit) => [(0, .dat (vlst (List.map C_api_Product s1))), (1, .dat (vfn fv1 us1)), (7, .dat (vint (s1.length : Int))), (8, .dat (vint (k2 : Int)))]) (fun (k2 : Nat) (s : Unit) => []) () H ⟨rfl, rfl, rfl, rfl, trivial⟩ trivial (fun _ _ => rfl) ?_ ?_
 ·rintro ⟨⟩ H
  replace H : slices_IndexFunc_L_api_Product_api_Product__E1 = some r := H
  unfold slices_IndexFunc_L_api_Product_api_Product__E1 at H
  refine awp_seq ?_
  refine awp_plain hN rfl ?_
  refine seq_run0 (stp_lss rfl rfl) ?_
  refine awp_seq ?_
  refine awp_cond _ rfl (fun h => (lt_t h).elim) (fun h => ?_)
  refine awp_exit ?_
  refine awp_seq ?_
  refine awp_plain hN rfl ?_
  refine qe rfl ?_
  refine awp_ret ?_
  cases H
  exact ⟨trivial, .inl rfl, trivial⟩
 ·rintro k2 x5 ⟨⟩ q3 h6 h7 H hq3
  replace H : slices_IndexFunc_L_api_Product_api_Product__L1 p1 k2 x5 = some q3 := H
  unfold slices_IndexFunc_L_api_Product_api_Product__L1 at H
  refine awp_seq ?_
  refine awp_plain hN rfl ?_
  refine seq_run0 (stp_lss rfl rfl) ?_
  refine awp_seq ?_
  refine awp_cond _ rfl (fun h => ?_) (fun h => (lt_f h6 h).elim)
  refine awp_skip ?_
  refine awp_seq ?_
  refine awp_block ?_
  refine awp_seq ?_
  refine awp_plain hN rfl ?_
  refine qd rfl ?_
  refine qe rfl ?_
  refine awp_seq ?_
  refine awp_plain hN rfl ?_
  refine qd rfl ?_
  refine qd rfl ?_
  refine qd rfl ?_
  refine seq_run0 (t_idx tyE26 (fun _ => rfl) rfl rfl h7) ?_
  refine seq_run0 (stp_loadEA tyS66 rfl (map_at h7) rfl) ?_
  obtain ⟨r8, h9, H⟩ := bnd H
  refine seq_run0 (stp_callv (hp1 x5 r8 h9) rfl ⟨.inl rfl, trivial⟩) ?_
  refine awp_cond _ rfl (fun h10 => ?_) (fun h10 => ?_)
  ·replace H := ift h10 H
   refine awp_seq ?_
   refine awp_plain hN rfl ?_
   refine qd rfl ?_
   refine qe rfl ?_
   refine awp_ret ?_
   replace H := retl H hq3
   cases H
   exact ⟨trivial, .inl rfl, trivial⟩
  ·replace H := iff_ h10 H
   refine awp_skip ?_
   refine awp_plain hN rfl ?_
   refine seq_run0 (stp_add rfl rfl (by omega)) ?_
   refine qd rfl ?_
   exact ⟨_, backl H, ⟨rfl, rfl, rfl, rfl, trivial⟩, trivial⟩
theorem k_gateref2_ProductAt_1 (p1 : S_api_Product) (c2 : Bs) (r : (Bool)) (H : m_gateref2_ProductAt_1 p1 c2 = some r) : Fn Tryd.prog 44 [vagg (C_api_Product p1), vcell [[vstr c2]] 0 0] (resOf [vbool r]) := by
 refine ⟨by kernel_rfl, pure_of (us := [vbool r]) Tryd.func44 rfl rfl rfl rfl fun X hN => ?_⟩
 unfold m_gateref2_ProductAt_1 at H
 refine awp_seq ?_
 refine awp_plain hN rfl ?_
 refine seq_run2 (stp_boxA 1 rfl) rfl ?_
 refine qe rfl ?_
 refine awp_seq ?_
 refine awp_plain hN rfl ?_
 refine seq_run0 (stp_fldP tyF66_0 rfl) ?_
 refine seq_run1 (stp_load1 tyS9 rfl rfl) rfl ?_
 refine seq_run0 (stp_loadE1 tyS9 rfl rfl rfl) ?_
 refine seq_run0 (stp_seql rfl rfl) ?_
 refine qe rfl ?_
 refine awp_ret ?_
 cases H
 exact ⟨trivial, .inl rfl, trivial⟩
theorem k_gateref2_ProductAt (c1 : S_api_Catalog) (key2 : Bs) (r : (Int)) (H : m_gateref2_ProductAt c1 key2 = some r) : Fn Tryd.prog 21 [vagg (C_api_Catalog c1), vstr key2] (resOf [vint r]) := by
 refine ⟨by kernel_rfl, pure_of (us := [vint r]) Tryd.func21 rfl rfl rfl rfl fun X hN => ?_⟩
 unfold m_gateref2_ProductAt at H
 refine awp_seq ?_
 refine awp_plain hN rfl ?_
 refine seq_run2 (stp_boxA 1 rfl) rfl ?_
 refine seq_run2 (stp_box1 2 rfl rfl) rfl ?_
 refine qe rfl ?_
 refine awp_seq ?_
 refine awp_frzB 2 [vstr key2] rfl rfl ?_
 refine awp_plain hN rfl ?_
 refine seq_run0 (stp_fldP tyF29_0 rfl) ?_
 refine seq_run1 (stp_load1 tyS26 rfl rfl) rfl ?_
 refine seq_run0 (stp_mkfn (us := [_]) ⟨rfl, trivial⟩) ?_
 obtain ⟨r3, h4, H⟩ := bnd H
 refine seq_run0 (stp_call (k_slices_IndexFunc_L_api_Product_api_Product_ c1.Products (fun (a0 : S_api_Product) => m_gateref2_ProductAt_1 a0 key2) 44 [vcell [[vstr key2]] 0 0] (fun a0 r h => k_gateref2_ProductAt_1 a0 key2 r h) r3 h4) ⟨.inl rfl, .inl rfl, trivial⟩) ?_
 refine qe rfl ?_
 refine awp_ret ?_
 cases H
 exact ⟨trivial, .inl rfl, trivial⟩
theorem k_gateref2_planFault (v1 : S_api_Catalog) (v2 : S_api_Plan) (r : (Int)) (H : m_gateref2_planFault v1 v2 = some r) : Fn Tryd.prog 35 [vagg (C_api_Catalog v1), vagg (C_api_Plan v2)] (resOf [vint r]) := by
 refine ⟨by kernel_rfl, pure_of (us := [vint r]) Tryd.func35 rfl rfl rfl rfl fun X hN => ?_⟩
 unfold m_gateref2_planFault at H
 refine awp_seq ?_
 refine awp_plain hN rfl ?_
 refine seq_run2 (stp_boxA 1 rfl) rfl ?_
 refine seq_run2 (stp_boxA 2 rfl) rfl ?_
 refine qe rfl ?_
 refine awp_seq ?_
 refine awp_block ?_
 refine awp_seq ?_
 refine awp_plain hN rfl ?_
 refine seq_run1 (stp_loadA tyS29 rfl rfl rfl) rfl ?_
 refine seq_run0 (stp_fldP tyF35_1 rfl) ?_
 refine seq_run1 (stp_load1 tyS9 rfl rfl) rfl ?_
 obtain ⟨r3, h4, H⟩ := bnd H
 refine seq_run0 (stp_call (k_gateref2_ProductAt v1 v2.Product r3 h4) ⟨.inl rfl, .inl rfl, trivial⟩) ?_
 refine seq_run0 (stp_lss rfl rfl) ?_
 refine qe rfl ?_
 refine awp_cond _ rfl (fun h5 => ?_) (fun h5 => ?_)
 ·replace H := ift h5 H
  refine awp_seq ?_
  refine awp_plain hN rfl ?_
  refine qe rfl ?_
  refine awp_ret ?_
  cases H
  exact ⟨trivial, .inl rfl, trivial⟩
 ·replace H := iff_ h5 H
  refine awp_joinE (ι := Bool) (fun i => [(3, .ptr 2 0), (13, .dat (vbool i))]) (fun i => [(2, .box none 35 [.dat (vstr v2.Key), .dat (vstr v2.Product), .dat (vint v2.Base), .dat (vint v2.Free), .dat (vlst (List.map C_api_Tier v2.Tiers)), .dat (vint v2.Limit), .dat (vint v2.Trial), .dat (vbool v2.Asked)])]) (fun i => gateref2_planFault_J1 v2 i = some r) (fun i => rfl) ?_ ?_
  ·skip
   refine awp_plain hN rfl ?_
   refine seq_run0 (stp_fldP tyF35_2 rfl) ?_
   refine seq_run1 (stp_load1 tyS3 rfl rfl) rfl ?_
   obtain ⟨r6, h7, H⟩ := bnd H
   refine seq_run0 (stp_call (k_gateref2_in v2.Base 0 1000000000000 r6 h7) ⟨.inl rfl, .inl rfl, .inl rfl, trivial⟩) ?_
   refine seq_run0 (stp_not rfl) ?_
   refine qd rfl ?_
   refine seq_split (j := 4) rfl rfl (fun h8 => ?_) (fun h8 => ?_) rfl
   ·have h9 := un3 h8
    replace H := iff_ h9 H
    refine seq_g0 rfl rfl h8 (stp_fldP tyF35_3 rfl) ?_
    refine seq_g1 rfl rfl h8 (stp_load1 tyS3 rfl rfl) rfl ?_
    obtain ⟨r10, h11, H⟩ := bnd H
    refine seq_g0 rfl rfl h8 (stp_call (k_gateref2_in v2.Free 0 1000000000000 r10 h11) ⟨.inl rfl, .inl rfl, .inl rfl, trivial⟩) ?_
    refine seq_g0 rfl rfl h8 (stp_not rfl) ?_
    refine seq_run0 (stp_pick_f rfl (bFF h9) rfl) ?_
    refine qe rfl ?_
    exact ⟨!r10, H, ⟨rfl, rfl, trivial⟩, ⟨rfl, trivial⟩⟩
   ·have h12 := un4 h8
    replace H := ift h12 H
    refine seq_skip rfl rfl h8 ?_
    refine seq_skip rfl rfl h8 ?_
    refine seq_skip rfl rfl h8 ?_
    refine seq_skip rfl rfl h8 ?_
    refine seq_run0 (stp_pick_t rfl (bTT h12) rfl) ?_
    refine qe rfl ?_
    exact ⟨true, H, ⟨rfl, rfl, trivial⟩, ⟨rfl, trivial⟩⟩
  ·rintro v13 H
   replace H : gateref2_planFault_J1 v2 v13 = some r := H
   unfold gateref2_planFault_J1 at H
   refine awp_cond _ rfl (fun h14 => ?_) (fun h14 => ?_)
   ·replace H := ift h14 H
    refine awp_seq ?_
    refine awp_plain hN rfl ?_
    refine qe rfl ?_
    refine awp_ret ?_
    cases H
    exact ⟨trivial, .inl rfl, trivial⟩
   ·replace H := iff_ h14 H
    refine awp_seq ?_
    refine awp_plain hN rfl ?_
    refine seq_run0 (stp_fldP tyF35_4 rfl) ?_
    refine seq_run1 (stp_load1 tyS33 rfl rfl) rfl ?_
    refine seq_run0 (t_len tyU33 rfl) ?_
    refine seq_run0 (stp_gtr rfl rfl) ?_
    refine qe rfl ?_
    refine awp_cond _ rfl (fun h15 => ?_) (fun h15 => ?_)
    ·replace H := ift h15 H
     refine awp_seq ?_
     refine awp_plain hN rfl ?_
     refine qe rfl ?_
     refine awp_ret ?_
     cases H
     exact ⟨trivial, .inl rfl, trivial⟩
    ·replace H := iff_ h15 H
     refine awp_skip ?_
     refine awp_seq ?_
     refine awp_seq ?_
     refine awp_plain hN rfl ?_
     refine seq_run0 (stp_fldP tyF35_4 rfl) ?_
     refine seq_run1 (stp_load1 tyS33 rfl rfl) rfl ?_
     refine seq_run0 (t_len tyU33 rfl) ?_
     refine qd rfl ?_
     refine awp_block ?_
     obtain ⟨h18, H⟩ := gif H
     refine awp_forL (fun (k16 : Nat) (s : Unit) => [(3, .ptr 2 0), (30, .dat (vlst (List.map C_api_Tier v2.Tiers))), (31, .dat (vint (v2.Tiers.length : Int))), (32, .dat (vint (k16 : Int)))]) (fun (k16 : Nat) (s : Unit) => [(2, .box none 35 [.dat (vstr v2.Key), .dat (vstr v2.Product), .dat (vint v2.Base), .dat (vint v2.Free), .dat (vlst (List.map C_api_Tier v2.Tiers)), .dat (vint v2.Limit), .dat (vint v2.Trial), .dat (vbool v2.Asked)])]) () H ⟨rfl, rfl, rfl, rfl, trivial⟩ ⟨rfl, trivial⟩ (fun _ _ => rfl) ?_ ?_
     ·rintro ⟨⟩ H
      replace H : gateref2_planFault_E2 v2 = some r := H
      unfold gateref2_planFault_E2 at H
      refine awp_seq ?_
      refine awp_plain hN rfl ?_
      refine seq_run0 (stp_lss rfl rfl) ?_
      refine awp_seq ?_
      refine awp_cond _ rfl (fun h => (lt_t h).elim) (fun h => ?_)
      refine awp_exit ?_
      refine awp_seq ?_
      refine awp_block ?_
      refine awp_joinE (ι := Bool) (fun i => [(3, .ptr 2 0), (64, .dat (vbool i))]) (fun i => [(2, .box none 35 [.dat (vstr v2.Key), .dat (vstr v2.Product), .dat (vint v2.Base), .dat (vint v2.Free), .dat (vlst (List.map C_api_Tier v2.Tiers)), .dat (vint v2.Limit), .dat (vint v2.Trial), .dat (vbool v2.Asked)])]) (fun i => gateref2_planFault_J3 v2 i = some r) (fun i => rfl) ?_ ?_
      ·skip
       refine awp_plain hN rfl ?_
       refine seq_run0 (stp_fldP tyF35_4 rfl) ?_
       refine seq_run1 (stp_load1 tyS33 rfl rfl) rfl ?_
       refine seq_run0 (t_len tyU33 rfl) ?_
       refine seq_run0 (stp_gtr rfl rfl) ?_
       refine qd rfl ?_
       refine seq_split (j := 4) rfl rfl (fun h20 => ?_) (fun h20 => ?_) rfl
       ·have h21 := un1 h20
        replace H := ift h21 H
        refine seq_g0 rfl rfl h20 (stp_fldP tyF35_4 rfl) ?_
        refine seq_g1 rfl rfl h20 (stp_load1 tyS33 rfl rfl) rfl ?_
        obtain ⟨x22, h23, H⟩ := bnd H
        refine seq_g0 rfl rfl h20 (t_idx tyE33 (fun _ => rfl) rfl rfl h23) ?_
        refine seq_g0 rfl rfl h20 (stp_fldE tyF62_0 rfl) ?_
        refine seq_g0 rfl rfl h20 (stp_loadE1 tyS3 rfl (map_at h23) rfl) ?_
        refine seq_g0 rfl rfl h20 (stp_neq rfl rfl) ?_
        refine seq_run0 (stp_pick_t rfl (bTT h21) rfl) ?_
        refine qe rfl ?_
        exact ⟨decide (x22.From ≠ 1), H, ⟨rfl, rfl, trivial⟩, ⟨rfl, trivial⟩⟩
       ·have h24 := un2 h20
        replace H := iff_ h24 H
        refine seq_skip rfl rfl h20 ?_
        refine seq_skip rfl rfl h20 ?_
        refine seq_skip rfl rfl h20 ?_
        refine seq_skip rfl rfl h20 ?_
        refine seq_skip rfl rfl h20 ?_
        refine seq_skip rfl rfl h20 ?_
        refine seq_run0 (stp_pick_f rfl (bFF h24) rfl) ?_
        refine qe rfl ?_
        exact ⟨false, H, ⟨rfl, rfl, trivial⟩, ⟨rfl, trivial⟩⟩
      ·rintro v25 H
       replace H : gateref2_planFault_J3 v2 v25 = some r := H
       unfold gateref2_planFault_J3 at H
       refine awp_cond _ rfl (fun h26 => ?_) (fun h26 => ?_)
       ·replace H := ift h26 H
        refine awp_seq ?_
        refine awp_plain hN rfl ?_
        refine qe rfl ?_
        refine awp_ret ?_
        cases H
        exact ⟨trivial, .inl rfl, trivial⟩
       ·replace H := iff_ h26 H
        refine awp_joinE (ι := Bool) (fun i => [(77, .dat (vbool i))]) (fun i => []) (fun i => gateref2_planFault_J4 i = some r) (fun i => rfl) ?_ ?_
        ·skip
         refine awp_plain hN rfl ?_
         refine seq_run0 (stp_fldP tyF35_5 rfl) ?_
         refine seq_run1 (stp_load1 tyS3 rfl rfl) rfl ?_
         obtain ⟨r27, h28, H⟩ := bnd H
         refine seq_run0 (stp_call (k_gateref2_in v2.Limit (-1) 1000000000000 r27 h28) ⟨.inl rfl, .inl rfl, .inl rfl, trivial⟩) ?_
         refine seq_run0 (stp_not rfl) ?_
         refine qd rfl ?_
         refine seq_split (j := 4) rfl rfl (fun h29 => ?_) (fun h29 => ?_) rfl
         ·have h30 := un3 h29
          replace H := iff_ h30 H
          refine seq_g0 rfl rfl h29 (stp_fldP tyF35_6 rfl) ?_
          refine seq_g1 rfl rfl h29 (stp_load1 tyS3 rfl rfl) rfl ?_
          obtain ⟨r31, h32, H⟩ := bnd H
          refine seq_g0 rfl rfl h29 (stp_call (k_gateref2_in v2.Trial 0 132 r31 h32) ⟨.inl rfl, .inl rfl, .inl rfl, trivial⟩) ?_
          refine seq_g0 rfl rfl h29 (stp_not rfl) ?_
          refine seq_run0 (stp_pick_f rfl (bFF h30) rfl) ?_
          refine qe rfl ?_
          exact ⟨!r31, H, ⟨rfl, trivial⟩, trivial⟩
         ·have h33 := un4 h29
          replace H := ift h33 H
          refine seq_skip rfl rfl h29 ?_
          refine seq_skip rfl rfl h29 ?_
          refine seq_skip rfl rfl h29 ?_
          refine seq_skip rfl rfl h29 ?_
          refine seq_run0 (stp_pick_t rfl (bTT h33) rfl) ?_
          refine qe rfl ?_
          exact ⟨true, H, ⟨rfl, trivial⟩, trivial⟩
        ·rintro v34 H
         replace H : gateref2_planFault_J4 v34 = some r := H
         unfold gateref2_planFault_J4 at H
         refine awp_cond _ rfl (fun h35 => ?_) (fun h35 => ?_)
         ·replace H := ift h35 H
          refine awp_seq ?_
          refine awp_plain hN rfl ?_
          refine qe rfl ?_
          refine awp_ret ?_
          cases H
          exact ⟨trivial, .inl rfl, trivial⟩
         ·replace H := iff_ h35 H
          refine awp_skip ?_
          refine awp_seq ?_
          refine awp_plain hN rfl ?_
          refine qe rfl ?_
          refine awp_ret ?_
          cases H
          exact ⟨trivial, .inl rfl, trivial⟩
     ·rintro k16 x19 ⟨⟩ q17 h36 h37 H hq17
      replace H : gateref2_planFault_L2 v2 k16 x19 = some q17 := H
      unfold gateref2_planFault_L2 at H
      refine awp_seq ?_
      refine awp_plain hN rfl ?_
      refine seq_run0 (stp_lss rfl rfl) ?_
      refine awp_seq ?_
      refine awp_cond _ rfl (fun h => ?_) (fun h => (lt_f h36 h).elim)
      refine awp_skip ?_
      refine awp_seq ?_
      refine awp_block ?_
      refine awp_seq ?_
      refine awp_plain hN rfl ?_
      refine qd rfl ?_
      refine seq_run0 (t_idx tyE33 (fun _ => rfl) rfl rfl h37) ?_
      refine seq_run0 (stp_loadEA tyS62 rfl (map_at h37) rfl) ?_
      refine seq_run2 (stp_alloc 3 tyZ62 rfl) rfl ?_
      refine qe rfl ?_
      refine seq_run2 (stp_storeW tyS62 rfl rfl rfl rfl) rfl ?_
      refine awp_block ?_
      refine awp_joinE (ι := Bool) (fun i => [(3, .ptr 2 0), (5, .dat (vint (k16 : Int))), (6, .ptr 3 0), (30, .dat (vlst (List.map C_api_Tier v2.Tiers))), (31, .dat (vint (v2.Tiers.length : Int))), (32, .dat (vint (k16 : Int))), (37, .dat (vbool i))]) (fun i => [(2, .box none 35 [.dat (vstr v2.Key), .dat (vstr v2.Product), .dat (vint v2.Base), .dat (vint v2.Free), .dat (vlst (List.map C_api_Tier v2.Tiers)), .dat (vint v2.Limit), .dat (vint v2.Trial), .dat (vbool v2.Asked)]), (3, .box none 62 [.dat (vint x19.From), .dat (vint x19.Cents)])]) (fun i => gateref2_planFault_J5 v2 k16 x19 i = some q17) (fun i => rfl) ?_ ?_
      ·skip
       refine awp_plain hN rfl ?_
       refine seq_run0 (stp_fldP tyF62_0 rfl) ?_
       refine seq_run1 (stp_load1 tyS3 rfl rfl) rfl ?_
       obtain ⟨r38, h39, H⟩ := bnd H
       refine seq_run0 (stp_call (k_gateref2_in x19.From 1 1000000000000 r38 h39) ⟨.inl rfl, .inl rfl, .inl rfl, trivial⟩) ?_
       refine seq_run0 (stp_not rfl) ?_
       refine qd rfl ?_
       refine seq_split (j := 4) rfl rfl (fun h40 => ?_) (fun h40 => ?_) rfl
       ·have h41 := un3 h40
        replace H := iff_ h41 H
        refine seq_g0 rfl rfl h40 (stp_fldP tyF62_1 rfl) ?_
        refine seq_g1 rfl rfl h40 (stp_load1 tyS3 rfl rfl) rfl ?_
        obtain ⟨r42, h43, H⟩ := bnd H
        refine seq_g0 rfl rfl h40 (stp_call (k_gateref2_in x19.Cents 0 1000000 r42 h43) ⟨.inl rfl, .inl rfl, .inl rfl, trivial⟩) ?_
        refine seq_g0 rfl rfl h40 (stp_not rfl) ?_
        refine seq_run0 (stp_pick_f rfl (bFF h41) rfl) ?_
        refine qe rfl ?_
        exact ⟨!r42, H, ⟨rfl, rfl, rfl, rfl, rfl, rfl, rfl, trivial⟩, ⟨rfl, rfl, trivial⟩⟩
       ·have h44 := un4 h40
        replace H := ift h44 H
        refine seq_skip rfl rfl h40 ?_
        refine seq_skip rfl rfl h40 ?_
        refine seq_skip rfl rfl h40 ?_
        refine seq_skip rfl rfl h40 ?_
        refine seq_run0 (stp_pick_t rfl (bTT h44) rfl) ?_
        refine qe rfl ?_
        exact ⟨true, H, ⟨rfl, rfl, rfl, rfl, rfl, rfl, rfl, trivial⟩, ⟨rfl, rfl, trivial⟩⟩
      ·rintro v45 H
       replace H : gateref2_planFault_J5 v2 k16 x19 v45 = some q17 := H
       unfold gateref2_planFault_J5 at H
       refine awp_cond _ rfl (fun h46 => ?_) (fun h46 => ?_)
       ·replace H := ift h46 H
        refine awp_seq ?_
        refine awp_plain hN rfl ?_
        refine qe rfl ?_
        refine awp_ret ?_
        replace H := retl H hq17
        cases H
        exact ⟨trivial, .inl rfl, trivial⟩
       ·replace H := iff_ h46 H
        refine awp_joinE (ι := Bool) (fun i => [(3, .ptr 2 0), (30, .dat (vlst (List.map C_api_Tier v2.Tiers))), (31, .dat (vint (v2.Tiers.length : Int))), (32, .dat (vint (k16 : Int))), (48, .dat (vbool i))]) (fun i => [(2, .box none 35 [.dat (vstr v2.Key), .dat (vstr v2.Product), .dat (vint v2.Base), .dat (vint v2.Free), .dat (vlst (List.map C_api_Tier v2.Tiers)), .dat (vint v2.Limit), .dat (vint v2.Trial), .dat (vbool v2.Asked)])]) (fun i => gateref2_planFault_J6 i = some q17) (fun i => rfl) ?_ ?_
        ·skip
         refine awp_draw mixed hN rfl rfl ?_
         refine qd rfl ?_
         refine seq_run0 (stp_gtr rfl rfl) ?_
         refine qd rfl ?_
         refine seq_split (j := 2) rfl rfl (fun h47 => ?_) (fun h47 => ?_) rfl
         ·have h48 := un1 h47
          replace H := ift h48 H
          refine seq_g0 rfl rfl h47 (stp_fldP tyF62_0 rfl) ?_
          refine seq_g1 rfl rfl h47 (stp_load1 tyS3 rfl rfl) rfl ?_
          refine seq_g0 rfl rfl h47 (stp_fldP tyF35_4 rfl) ?_
          refine seq_g1 rfl rfl h47 (stp_load1 tyS33 rfl rfl) rfl ?_
          refine seq_g0 rfl rfl h47 (stp_move (.dat _) rfl) ?_
          refine seq_g0 rfl rfl h47 (stp_sub rfl rfl (by omega)) ?_
          obtain ⟨x49, h50, H⟩ := bnd H
          refine seq_g0 rfl rfl h47 (t_idxI tyE33 (fun _ => rfl) rfl rfl h50) ?_
          refine seq_g0 rfl rfl h47 (stp_fldE tyF62_0 rfl) ?_
          refine seq_g0 rfl rfl h47 (stp_loadE1 tyS3 rfl (map_at (at_some h50).2) rfl) ?_
          refine seq_g0 rfl rfl h47 (stp_leq rfl rfl) ?_
          refine seq_run0 (stp_pick_t rfl (bTT h48) rfl) ?_
          refine qe rfl ?_
          refine ⟨rfl, ?_⟩
          exact ⟨decide (x19.From ≤ x49.From), H, ⟨rfl, rfl, rfl, rfl, rfl, trivial⟩, ⟨rfl, trivial⟩⟩
         ·have h51 := un2 h47
          replace H := iff_ h51 H
          refine seq_skip rfl rfl h47 ?_
          refine seq_skip rfl rfl h47 ?_
          refine seq_skip rfl rfl h47 ?_
          refine seq_skip rfl rfl h47 ?_
          refine seq_skip rfl rfl h47 ?_
          refine seq_skip rfl rfl h47 ?_
          refine seq_skip rfl rfl h47 ?_
          refine seq_skip rfl rfl h47 ?_
          refine seq_skip rfl rfl h47 ?_
          refine seq_skip rfl rfl h47 ?_
          refine seq_run0 (stp_pick_f rfl (bFF h51) rfl) ?_
          refine qe rfl ?_
          refine ⟨rfl, ?_⟩
          exact ⟨false, H, ⟨rfl, rfl, rfl, rfl, rfl, trivial⟩, ⟨rfl, trivial⟩⟩
        ·rintro v52 H
         replace H : gateref2_planFault_J6 v52 = some q17 := H
         unfold gateref2_planFault_J6 at H
         refine awp_cond _ rfl (fun h53 => ?_) (fun h53 => ?_)
         ·replace H := ift h53 H
          refine awp_seq ?_
          refine awp_plain hN rfl ?_
          refine qe rfl ?_
          refine awp_ret ?_
          replace H := retl H hq17
          cases H
          exact ⟨trivial, .inl rfl, trivial⟩
         ·replace H := iff_ h53 H
          refine awp_skip ?_
          refine awp_plain hN rfl ?_
          refine seq_run0 (stp_add rfl rfl (by omega)) ?_
          refine qd rfl ?_
          exact ⟨_, backl H, ⟨rfl, rfl, rfl, rfl, trivial⟩, ⟨rfl, trivial⟩⟩
theorem k_gateref2_scope (s1 : Bs) (r : (Bool)) (H : m_gateref2_scope s1 = some r) : Fn Tryd.prog 54 [vstr s1] (resOf [vbool r]) := by
 refine ⟨by kernel_rfl, pure_of (us := [vbool r]) Tryd.func54 rfl rfl rfl rfl fun X hN => ?_⟩
 unfold m_gateref2_scope at H
 refine awp_seq ?_
 refine awp_plain hN rfl ?_
 refine qe rfl ?_
 refine awp_seq ?_
 refine awp_plain hN rfl ?_
 refine qd rfl ?_
 obtain ⟨r2, h3, H⟩ := bnd H
 refine seq_run0 (stp_call (k_strings_Split s1 [58] r2 h3) ⟨.inl rfl, .inl rfl, trivial⟩) ?_
 refine qe rfl ?_
 refine awp_seq ?_
 refine awp_seq ?_
 refine awp_plain hN rfl ?_
 refine qd rfl ?_
 refine seq_run0 (t_len tyU63 rfl) ?_
 refine qd rfl ?_
 refine awp_block ?_
 obtain ⟨h6, H⟩ := gif H
 refine awp_forL (fun (k4 : Nat) (s : Unit) => [(3, .dat (vlst (List.map C_string r2))), (8, .dat (vlst (List.map C_string r2))), (9, .dat (vint (r2.length : Int))), (10, .dat (vint (k4 : Int)))]) (fun (k4 : Nat) (s : Unit) => []) () H ⟨rfl, rfl, rfl, rfl, trivial⟩ trivial (fun _ _ => rfl) ?_ ?_
 ·rintro ⟨⟩ H
  replace H : gateref2_scope_E1 r2 = some r := H
  unfold gateref2_scope_E1 at H
  refine awp_seq ?_
  refine awp_plain hN rfl ?_
  refine seq_run0 (stp_lss rfl rfl) ?_
  refine awp_seq ?_
  refine awp_cond _ rfl (fun h => (lt_t h).elim) (fun h => ?_)
  refine awp_exit ?_
  refine awp_seq ?_
  refine awp_plain hN rfl ?_
  refine qd rfl ?_
  refine seq_run0 (t_len tyU63 rfl) ?_
  refine seq_run0 (stp_leq rfl rfl) ?_
  refine qe rfl ?_
  refine awp_ret ?_
  cases H
  exact ⟨trivial, .inl rfl, trivial⟩
 ·rintro k4 x7 ⟨⟩ q5 h8 h9 H hq5
  replace H : gateref2_scope_L1 r2 k4 x7 = some q5 := H
  unfold gateref2_scope_L1 at H
  refine awp_seq ?_
  refine awp_plain hN rfl ?_
  refine seq_run0 (stp_lss rfl rfl) ?_
  refine awp_seq ?_
  refine awp_cond _ rfl (fun h => ?_) (fun h => (lt_f h8 h).elim)
  refine awp_skip ?_
  refine awp_seq ?_
  refine awp_block ?_
  refine awp_seq ?_
  refine awp_plain hN rfl ?_
  refine qd rfl ?_
  refine seq_run0 (t_idx tyE63 (fun _ => rfl) rfl rfl h9) ?_
  refine seq_run0 (stp_loadE1 tyS9 rfl (map_at h9) rfl) ?_
  refine qe rfl ?_
  refine qe rfl ?_
  refine awp_seq ?_
  refine awp_plain hN rfl ?_
  refine qd rfl ?_
  obtain ⟨r10, h11, H⟩ := bnd H
  refine seq_run0 (stp_call (k_gateref2_Key x7 r10 h11) ⟨.inl rfl, trivial⟩) ?_
  refine seq_run0 (stp_not rfl) ?_
  refine qd rfl ?_
  refine seq_aT rfl rfl (fun hc => stp_move (.dat _) rfl) ?_
  refine seq_aT rfl rfl (fun hc => stp_sneq (cnd (c := (!r10)) hc) rfl) ?_
  refine seq_aT rfl rfl (fun hc => stp_move (.dat _) (cnd (c := (!r10)) hc)) ?_
  refine seq_bF rfl rfl (fun hc => stp_move (.dat _) rfl) ?_
  refine seq_bF rfl rfl (fun hc => stp_move (.dat _) rfl) ?_
  refine seq_bF rfl rfl (fun hc => t_len tyU63 (cnd (c := ((!r10) && !(decide (x7 ≠ [42])))) hc)) ?_
  refine seq_bF rfl rfl (fun hc => stp_wrap _ (cnd (c := ((!r10) && !(decide (x7 ≠ [42])))) hc) rfl (.inr (.inl ⟨rfl, rfl⟩))) ?_
  refine seq_bF rfl rfl (fun hc => stp_lss (cnd (c := ((!r10) && !(decide (x7 ≠ [42])))) hc) (cnd (c := ((!r10) && !(decide (x7 ≠ [42])))) hc)) ?_
  refine seq_aT rfl rfl (fun hc => stp_pick_or (cnd (c := (!r10)) hc) rfl (fun hb => (cnd (c := ((!r10) && !(decide (x7 ≠ [42])))) (andI hc (notI hb))))) ?_
  refine seq_run0 (stp_pick_and rfl (fun hb => (cnd (c := (!r10)) hb)) rfl) ?_
  refine awp_cond _ rfl (fun h12 => ?_) (fun h12 => ?_)
  ·replace H := ift h12 H
   refine awp_seq ?_
   refine awp_plain hN rfl ?_
   refine qe rfl ?_
   refine awp_ret ?_
   replace H := retl H hq5
   cases H
   exact ⟨trivial, .inl rfl, trivial⟩
  ·replace H := iff_ h12 H
   refine awp_skip ?_
   refine awp_plain hN rfl ?_
   refine seq_run0 (stp_add rfl rfl (by omega)) ?_
   refine qd rfl ?_
   exact ⟨_, backl H, ⟨rfl, rfl, rfl, rfl, trivial⟩, trivial⟩
end Go.Proofs.YtdajmjdjhgpaaaaDoor
