/- Walks along the models. Printed by a program. -/
import Derived.Test.YtaolapgdgdmapaaGreatDoorZbw5
namespace Go.Proofs.YtaolapgdgdmapaaGreatDoor
open Go.RowKit
set_option linter.unusedVariables false
set_option maxRecDepth 20000
set_option maxHeartbeats 2000000
theorem k_slices_Equal_L_api_Event_api_Event_ (s1 : (List S_api_Event)) (s2 : (List S_api_Event)) (r : (Bool)) (H : m_slices_Equal_L_api_Event_api_Event_ s1 s2 = some r) : Fn Tryz.prog 19 [vlst (List.map C_api_Event s1), vlst (List.map C_api_Event s2)] (resOf [vbool r]) := by
 refine ⟨by kernel_rfl, pure_of (us := [vbool r]) Tryz.func19 rfl rfl rfl rfl fun X hN => ?_⟩
 unfold m_slices_Equal_L_api_Event_api_Event_ at H
 refine awp_seq ?_
 refine awp_plain hN rfl ?_
 refine qe rfl ?_
 refine awp_seq ?_
 refine awp_seq ?_
 refine awp_plain hN rfl ?_
 refine qd rfl ?_
 refine seq_run0 (t_len tyU31 rfl) ?_
 refine qd rfl ?_
 refine seq_run0 (t_len tyU31 rfl) ?_
 refine seq_run0 (stp_neq rfl rfl) ?_
 refine awp_cond _ rfl (fun h3 => ?_) (fun h3 => ?_)
 ·replace H := ift h3 H
  refine awp_seq ?_
  refine awp_plain hN rfl ?_
  refine qe rfl ?_
  refine awp_ret ?_
  cases H
  exact ⟨trivial, .inl rfl, trivial⟩
 ·replace H := iff_ h3 H
  refine awp_skip ?_
  refine awp_seq ?_
  refine awp_seq ?_
  refine awp_plain hN rfl ?_
  refine qd rfl ?_
  refine seq_run0 (t_len tyU31 rfl) ?_
  refine qd rfl ?_
  refine awp_block ?_
  obtain ⟨h6, H⟩ := gif H
  refine awp_forL (fun (k4 : Nat) (s : Unit) => [(0, .dat (vlst (List.map C_api_Event s1))), (1, .dat (vlst (List.map C_api_Event s2))), (12, .dat (vint (s1.length : Int))), (13, .dat (vint (k4 : Int)))]) (fun (k4 : Nat) (s : Unit) => []) () H ⟨rfl, rfl, rfl, rfl, trivial⟩ trivial (fun _ _ => rfl) ?_ ?_
  ·rintro ⟨⟩ H
   replace H : slices_Equal_L_api_Event_api_Event__E1 = some r := H
   unfold slices_Equal_L_api_Event_api_Event__E1 at H
   refine awp_seq ?_
   refine awp_plain hN rfl ?_
   refine seq_run0 (stp_lss rfl rfl) ?_
   refine awp_seq ?_
   refine awp_cond _ rfl (fun h => (lt_t h).elim) (fun h => ?_)
   refine awp_exit ?_
   refine awp_seq ?_
   refine awp_plain hN rfl ?_
   refine qe rfl ?_
   refine awp_ret ?_
   cases H
   exact ⟨trivial, .inl rfl, trivial⟩
  ·rintro k4 x7 ⟨⟩ q5 h8 h9 H hq5
   replace H : slices_Equal_L_api_Event_api_Event__L1 s2 k4 x7 = some q5 := H
   unfold slices_Equal_L_api_Event_api_Event__L1 at H
   refine awp_seq ?_
   refine awp_plain hN rfl ?_
   refine seq_run0 (stp_lss rfl rfl) ?_
   refine awp_seq ?_
   refine awp_cond _ rfl (fun h => ?_) (fun h => (lt_f h8 h).elim)
   refine awp_skip ?_
   refine awp_seq ?_
   refine awp_block ?_
   refine awp_seq ?_
   refine awp_plain hN rfl ?_
   refine qd rfl ?_
   refine qe rfl ?_
   refine awp_seq ?_
   refine awp_draw mixed hN rfl rfl ?_
   refine qd rfl ?_
   refine qd rfl ?_
   refine seq_run0 (t_idx tyE31 (fun _ => rfl) rfl rfl h9) ?_
   refine seq_run0 (stp_loadEA tyS40 rfl (map_at h9) rfl) ?_
   refine qd rfl ?_
   refine qd rfl ?_
   obtain ⟨x10, h11, H⟩ := bnd H
   refine seq_run0 (t_idx tyE31 (fun _ => rfl) rfl rfl h11) ?_
   refine seq_run0 (stp_loadEA tyS40 rfl (map_at h11) rfl) ?_
   refine seq_run0 (stp_aneq [_, _, _, _, _] [_, _, _, _, _] tyQ40 rfl rfl rfl) ?_
   refine ⟨rfl, ?_⟩
   refine awp_cond _ rfl (fun h12 => ?_) (fun h12 => ?_)
   ·replace H := ift h12 H
    refine awp_seq ?_
    refine awp_plain hN rfl ?_
    refine qe rfl ?_
    refine awp_ret ?_
    replace H := retl H hq5
    cases H
    exact ⟨trivial, .inl rfl, trivial⟩
   ·replace H := iff_ h12 H
    refine awp_skip ?_
    refine awp_plain hN rfl ?_
    refine seq_run0 (stp_add rfl rfl (by omega)) ?_
    refine qd rfl ?_
    exact ⟨_, backl H, ⟨rfl, rfl, rfl, rfl, trivial⟩, trivial⟩
theorem k_slices_Equal_L_int_int_ (s1 : (List Int)) (s2 : (List Int)) (r : (Bool)) (H : m_slices_Equal_L_int_int_ s1 s2 = some r) : Fn Tryz.prog 20 [vlst (List.map C_int s1), vlst (List.map C_int s2)] (resOf [vbool r]) := by
 refine ⟨by kernel_rfl, pure_of (us := [vbool r]) Tryz.func20 rfl rfl rfl rfl fun X hN => ?_⟩
 unfold m_slices_Equal_L_int_int_ at H
 refine awp_seq ?_
 refine awp_plain hN rfl ?_
 refine qe rfl ?_
 refine awp_seq ?_
 refine awp_seq ?_
 refine awp_plain hN rfl ?_
 refine qd rfl ?_
 refine seq_run0 (t_len tyU22 rfl) ?_
 refine qd rfl ?_
 refine seq_run0 (t_len tyU22 rfl) ?_
 refine seq_run0 (stp_neq rfl rfl) ?_
 refine awp_cond _ rfl (fun h3 => ?_) (fun h3 => ?_)
 ·replace H := ift h3 H
  refine awp_seq ?_
  refine awp_plain hN rfl ?_
  refine qe rfl ?_
  refine awp_ret ?_
  cases H
  exact ⟨trivial, .inl rfl, trivial⟩
 ·replace H := iff_ h3 H
  refine awp_skip ?_
  refine awp_seq ?_
  refine awp_seq ?_
  refine awp_plain hN rfl ?_
  refine qd rfl ?_
  refine seq_run0 (t_len tyU22 rfl) ?_
  refine qd rfl ?_
  refine awp_block ?_
  obtain ⟨h6, H⟩ := gif H
  refine awp_forL (fun (k4 : Nat) (s : Unit) => [(0, .dat (vlst (List.map C_int s1))), (1, .dat (vlst (List.map C_int s2))), (12, .dat (vint (s1.length : Int))), (13, .dat (vint (k4 : Int)))]) (fun (k4 : Nat) (s : Unit) => []) () H ⟨rfl, rfl, rfl, rfl, trivial⟩ trivial (fun _ _ => rfl) ?_ ?_
  ·rintro ⟨⟩ H
   replace H : slices_Equal_L_int_int__E1 = some r := H
   unfold slices_Equal_L_int_int__E1 at H
   refine awp_seq ?_
   refine awp_plain hN rfl ?_
   refine seq_run0 (stp_lss rfl rfl) ?_
   refine awp_seq ?_
   refine awp_cond _ rfl (fun h => (lt_t h).elim) (fun h => ?_)
   refine awp_exit ?_
   refine awp_seq ?_
   refine awp_plain hN rfl ?_
   refine qe rfl ?_
   refine awp_ret ?_
   cases H
   exact ⟨trivial, .inl rfl, trivial⟩
  ·rintro k4 x7 ⟨⟩ q5 h8 h9 H hq5
   replace H : slices_Equal_L_int_int__L1 s2 k4 x7 = some q5 := H
   unfold slices_Equal_L_int_int__L1 at H
   refine awp_seq ?_
   refine awp_plain hN rfl ?_
   refine seq_run0 (stp_lss rfl rfl) ?_
   refine awp_seq ?_
   refine awp_cond _ rfl (fun h => ?_) (fun h => (lt_f h8 h).elim)
   refine awp_skip ?_
   refine awp_seq ?_
   refine awp_block ?_
   refine awp_seq ?_
   refine awp_plain hN rfl ?_
   refine qd rfl ?_
   refine qe rfl ?_
   refine awp_seq ?_
   refine awp_draw mixed hN rfl rfl ?_
   refine qd rfl ?_
   refine qd rfl ?_
   refine seq_run0 (t_idx tyE22 (fun _ => rfl) rfl rfl h9) ?_
   refine seq_run0 (stp_loadE1 tyS3 rfl (map_at h9) rfl) ?_
   refine qd rfl ?_
   refine qd rfl ?_
   obtain ⟨x10, h11, H⟩ := bnd H
   refine seq_run0 (t_idx tyE22 (fun _ => rfl) rfl rfl h11) ?_
   refine seq_run0 (stp_loadE1 tyS3 rfl (map_at h11) rfl) ?_
   refine seq_run0 (stp_neq rfl rfl) ?_
   refine ⟨rfl, ?_⟩
   refine awp_cond _ rfl (fun h12 => ?_) (fun h12 => ?_)
   ·replace H := ift h12 H
    refine awp_seq ?_
    refine awp_plain hN rfl ?_
    refine qe rfl ?_
    refine awp_ret ?_
    replace H := retl H hq5
    cases H
    exact ⟨trivial, .inl rfl, trivial⟩
   ·replace H := iff_ h12 H
    refine awp_skip ?_
    refine awp_plain hN rfl ?_
    refine seq_run0 (stp_add rfl rfl (by omega)) ?_
    refine qd rfl ?_
    exact ⟨_, backl H, ⟨rfl, rfl, rfl, rfl, trivial⟩, trivial⟩
theorem k_portal_price (p1 : S_api_Plan) (calls2 : Int) (r : (Int)) (H : m_portal_price p1 calls2 = some r) : Fn Tryz.prog 84 [vagg (C_api_Plan p1), vint calls2] (resOf [vint r]) := by
 refine ⟨by kernel_rfl, pure_of (us := [vint r]) Tryz.func84 rfl rfl rfl rfl fun X hN => ?_⟩
 unfold m_portal_price at H
 refine awp_seq ?_
 refine awp_plain hN rfl ?_
 refine seq_run2 (stp_boxA 1 rfl) rfl ?_
 refine qe rfl ?_
 refine awp_seq ?_
 refine awp_plain hN rfl ?_
 refine qd rfl ?_
 refine seq_run0 (stp_fldP tyF64_3 rfl) ?_
 refine seq_run1 (stp_load1 tyS3 rfl rfl) rfl ?_
 refine seq_run0 (stp_wrap _ rfl rfl (.inr (.inl ⟨rfl, rfl⟩))) ?_
 refine seq_run0 (stp_max rfl rfl) ?_
 refine qe rfl ?_
 refine awp_seq ?_
 refine awp_plain hN rfl ?_
 refine qe rfl ?_
 refine awp_seq ?_
 refine awp_seq ?_
 refine awp_plain hN rfl ?_
 refine seq_run0 (stp_fldP tyF64_4 rfl) ?_
 refine seq_run1 (stp_load1 tyS62 rfl rfl) rfl ?_
 refine seq_run0 (t_len tyU62 rfl) ?_
 refine qd rfl ?_
 refine awp_block ?_
 obtain ⟨h6, H⟩ := gif H
 refine awp_forL (fun (k4 : Nat) (s : Int) => [(2, .ptr 1 0), (5, .dat (vint (max 0 (wr (calls2 - p1.Free))))), (6, .dat (vint s)), (16, .dat (vlst (List.map C_api_Tier p1.Tiers))), (17, .dat (vint (p1.Tiers.length : Int))), (18, .dat (vint (k4 : Int)))]) (fun (k4 : Nat) (s : Int) => [(1, .box none 64 [.dat (vstr p1.Key), .dat (vstr p1.Product), .dat (vint p1.Base), .dat (vint p1.Free), .dat (vlst (List.map C_api_Tier p1.Tiers)), .dat (vint p1.Limit), .dat (vint p1.Trial), .dat (vbool p1.Asked)])]) 0 H ⟨rfl, rfl, rfl, rfl, rfl, rfl, trivial⟩ ⟨rfl, trivial⟩ (fun _ _ => rfl) ?_ ?_
 ·rintro sum3 H
  replace H : portal_price_E1 sum3 = some r := H
  unfold portal_price_E1 at H
  refine awp_seq ?_
  refine awp_plain hN rfl ?_
  refine seq_run0 (stp_lss rfl rfl) ?_
  refine awp_seq ?_
  refine awp_cond _ rfl (fun h => (lt_t h).elim) (fun h => ?_)
  refine awp_exit ?_
  refine awp_seq ?_
  refine awp_plain hN rfl ?_
  refine qd rfl ?_
  obtain ⟨h8, H⟩ := gif H
  refine seq_run0 (stp_quo rfl rfl h8.1 h8.2) ?_
  refine qe rfl ?_
  refine awp_ret ?_
  cases H
  exact ⟨trivial, .inl rfl, trivial⟩
 ·rintro k4 x7 sum3 q5 h9 h10 H hq5
  replace H : portal_price_L1 p1 calls2 k4 x7 sum3 = some q5 := H
  unfold portal_price_L1 at H
  refine awp_seq ?_
  refine awp_plain hN rfl ?_
  refine seq_run0 (stp_lss rfl rfl) ?_
  refine awp_seq ?_
  refine awp_cond _ rfl (fun h => ?_) (fun h => (lt_f h9 h).elim)
  refine awp_skip ?_
  refine awp_seq ?_
  refine awp_block ?_
  refine awp_seq ?_
  refine awp_plain hN rfl ?_
  refine qd rfl ?_
  refine seq_run0 (t_idx tyE62 (fun _ => rfl) rfl rfl h10) ?_
  refine seq_run0 (stp_loadEA tyS92 rfl (map_at h10) rfl) ?_
  refine seq_run2 (stp_alloc 2 tyZ92 rfl) rfl ?_
  refine qe rfl ?_
  refine seq_run2 (stp_storeW tyS92 rfl rfl rfl rfl) rfl ?_
  refine awp_seq ?_
  refine awp_plain hN rfl ?_
  refine qd rfl ?_
  refine qe rfl ?_
  refine awp_joinE (ι := Int) (fun i => [(2, .ptr 1 0), (5, .dat (vint (max 0 (wr (calls2 - p1.Free))))), (6, .dat (vint sum3)), (8, .ptr 2 0), (9, .dat (vint i)), (16, .dat (vlst (List.map C_api_Tier p1.Tiers))), (17, .dat (vint (p1.Tiers.length : Int))), (18, .dat (vint (k4 : Int)))]) (fun i => [(1, .box none 64 [.dat (vstr p1.Key), .dat (vstr p1.Product), .dat (vint p1.Base), .dat (vint p1.Free), .dat (vlst (List.map C_api_Tier p1.Tiers)), .dat (vint p1.Limit), .dat (vint p1.Trial), .dat (vbool p1.Asked)]), (2, .box none 92 [.dat (vint x7.From), .dat (vint x7.Cents)])]) (fun i => portal_price_J2 sum3 x7 i = some q5) (fun i => rfl) ?_ ?_
  ·skip
   refine awp_seq ?_
   refine awp_plain hN rfl ?_
   refine qd rfl ?_
   refine seq_run0 (stp_add rfl rfl (by omega)) ?_
   refine seq_run0 (stp_fldP tyF64_4 rfl) ?_
   refine seq_run1 (stp_load1 tyS62 rfl rfl) rfl ?_
   refine seq_run0 (t_len tyU62 rfl) ?_
   refine seq_run0 (stp_lss rfl rfl) ?_
   refine awp_cond _ rfl (fun h11 => ?_) (fun h11 => ?_)
   ·replace H := ift h11 H
    refine awp_plain hN rfl ?_
    refine qd rfl ?_
    refine seq_run0 (stp_fldP tyF64_4 rfl) ?_
    refine seq_run1 (stp_load1 tyS62 rfl rfl) rfl ?_
    refine qd rfl ?_
    refine seq_run0 (stp_add rfl rfl (by omega)) ?_
    obtain ⟨x12, h13, H⟩ := bnd H
    refine seq_run0 (t_idx tyE62 (fun _ => rfl) rfl rfl h13) ?_
    refine seq_run0 (stp_fldE tyF92_0 rfl) ?_
    refine seq_run0 (stp_loadE1 tyS3 rfl (map_at h13) rfl) ?_
    refine seq_run0 (stp_wrap _ rfl rfl (.inr (.inl ⟨rfl, rfl⟩))) ?_
    refine seq_run0 (stp_min rfl rfl) ?_
    refine qe rfl ?_
    exact ⟨(min (max 0 (wr (calls2 - p1.Free))) (wr (x12.From - 1))), H, ⟨rfl, rfl, rfl, rfl, rfl, rfl, rfl, rfl, trivial⟩, ⟨rfl, rfl, trivial⟩⟩
   ·replace H := iff_ h11 H
    refine awp_skip ?_
    exact ⟨(max 0 (wr (calls2 - p1.Free))), H, ⟨rfl, rfl, rfl, rfl, rfl, rfl, rfl, rfl, trivial⟩, ⟨rfl, rfl, trivial⟩⟩
  ·rintro to14 H
   replace H : portal_price_J2 sum3 x7 to14 = some q5 := H
   unfold portal_price_J2 at H
   refine awp_plain hN rfl ?_
   refine qd rfl ?_
   refine qd rfl ?_
   refine seq_run0 (stp_fldP tyF92_0 rfl) ?_
   refine seq_run1 (stp_load1 tyS3 rfl rfl) rfl ?_
   refine seq_run0 (stp_wrap _ rfl rfl (.inr (.inl ⟨rfl, rfl⟩))) ?_
   refine seq_run0 (stp_wrap _ rfl rfl (.inl ⟨rfl, rfl⟩)) ?_
   refine seq_run0 (stp_max rfl rfl) ?_
   refine seq_run0 (stp_fldP tyF92_1 rfl) ?_
   refine seq_run1 (stp_load1 tyS3 rfl rfl) rfl ?_
   refine seq_run0 (stp_wrap _ rfl rfl (.inr (.inr ⟨rfl, rfl⟩))) ?_
   refine seq_run0 (stp_wrap _ rfl rfl (.inl ⟨rfl, rfl⟩)) ?_
   refine qe rfl ?_
   refine awp_plain hN rfl ?_
   refine seq_run0 (stp_add rfl rfl (by omega)) ?_
   refine qd rfl ?_
   exact ⟨_, backl H, ⟨rfl, rfl, rfl, rfl, rfl, rfl, trivial⟩, ⟨rfl, trivial⟩⟩
theorem k_portal_Price (c1 : S_api_Catalog) (plan2 : Bs) (calls3 : Int) (r : (Int × Int)) (H : m_portal_Price c1 plan2 calls3 = some r) : Fn Tryz.prog 51 [vagg (C_api_Catalog c1), vstr plan2, vint calls3] (resOf [vint r.1, vint r.2]) := by
 refine ⟨by kernel_rfl, pure_of (us := [vint r.1, vint r.2]) Tryz.func51 rfl rfl rfl rfl fun X hN => ?_⟩
 unfold m_portal_Price at H
 refine awp_seq ?_
 refine awp_plain hN rfl ?_
 refine seq_run2 (stp_boxA 1 rfl) rfl ?_
 refine qe rfl ?_
 refine qe rfl ?_
 refine awp_seq ?_
 refine awp_seq ?_
 refine awp_plain hN rfl ?_
 refine seq_run1 (stp_loadA tyS29 rfl rfl rfl) rfl ?_
 obtain ⟨r4, h5, H⟩ := bnd H
 refine seq_run0 (stp_call (k_portal_CheckCatalog c1 r4 h5) ⟨.inl rfl, trivial⟩) ?_
 refine qe rfl ?_
 refine awp_seq ?_
 refine awp_plain hN rfl ?_
 refine qd rfl ?_
 refine seq_run0 (stp_neq rfl rfl) ?_
 refine awp_cond _ rfl (fun h6 => ?_) (fun h6 => ?_)
 ·replace H := ift h6 H
  refine awp_seq ?_
  refine awp_plain hN rfl ?_
  refine qd rfl ?_
  refine qe rfl ?_
  refine qe rfl ?_
  refine awp_ret ?_
  cases H
  exact ⟨trivial, .inl rfl, .inl rfl, trivial⟩
 ·replace H := iff_ h6 H
  refine awp_skip ?_
  refine awp_seq ?_
  refine awp_plain hN rfl ?_
  refine seq_run1 (stp_loadA tyS29 rfl rfl rfl) rfl ?_
  refine qd rfl ?_
  obtain ⟨r7, h8, H⟩ := bnd H
  refine seq_run0 (stp_call (k_portal_planOf c1 plan2 r7 h8) ⟨.inl rfl, .inl rfl, trivial⟩) ?_
  refine qd rfl ?_
  refine seq_run0 (stp_ext rfl rfl) ?_
  refine seq_run0 (stp_ext rfl rfl) ?_
  refine seq_run2 (stp_alloc 2 tyZ64 rfl) rfl ?_
  refine seq_run2 (stp_storeW tyS64 rfl rfl rfl rfl) rfl ?_
  refine qe rfl ?_
  refine awp_seq ?_
  refine awp_seq ?_
  refine awp_plain hN rfl ?_
  refine qd rfl ?_
  refine seq_run0 (stp_not rfl) ?_
  refine awp_cond _ rfl (fun h9 => ?_) (fun h9 => ?_)
  ·replace H := ift h9 H
   refine awp_seq ?_
   refine awp_plain hN rfl ?_
   refine qe rfl ?_
   refine qe rfl ?_
   refine awp_ret ?_
   cases H
   exact ⟨trivial, .inl rfl, .inl rfl, trivial⟩
  ·replace H := iff_ h9 H
   refine awp_skip ?_
   refine awp_seq ?_
   refine awp_seq ?_
   refine awp_plain hN rfl ?_
   refine qd rfl ?_
   obtain ⟨r10, h11, H⟩ := bnd H
   refine seq_run0 (stp_call (k_kit_Outside calls3 0 1000000000000 r10 h11) ⟨.inl rfl, .inl rfl, .inl rfl, trivial⟩) ?_
   refine awp_cond _ rfl (fun h12 => ?_) (fun h12 => ?_)
   ·replace H := ift h12 H
    refine awp_seq ?_
    refine awp_plain hN rfl ?_
    refine qe rfl ?_
    refine qe rfl ?_
    refine awp_ret ?_
    cases H
    exact ⟨trivial, .inl rfl, .inl rfl, trivial⟩
   ·replace H := iff_ h12 H
    refine awp_skip ?_
    refine awp_seq ?_
    refine awp_plain hN rfl ?_
    refine seq_run1 (stp_loadA tyS64 rfl rfl rfl) rfl ?_
    refine qd rfl ?_
    obtain ⟨r13, h14, H⟩ := bnd H
    refine seq_run0 (stp_call (k_portal_price r7.1 calls3 r13 h14) ⟨.inl rfl, .inl rfl, trivial⟩) ?_
    refine qe rfl ?_
    refine qe rfl ?_
    refine awp_ret ?_
    cases H
    exact ⟨trivial, .inl rfl, .inl rfl, trivial⟩
theorem k_gatelaw2_priced  (r : (Bool)) (H : m_gatelaw2_priced  = some r) : Fn Tryz.prog 21 [] (resOf [vbool r]) := by
 refine ⟨by kernel_rfl, pure_of (us := [vbool r]) Tryz.func21 rfl rfl rfl rfl fun X hN => ?_⟩
 unfold m_gatelaw2_priced at H
 refine awp_seq ?_
 refine awp_plain hN rfl ?_
 refine qe rfl ?_
 refine awp_seq ?_
 refine awp_plain hN rfl ?_
 refine seq_run0 (stp_wk (u' := vagg (C_api_Product (S_api_Product.mk [112] []))) (wk_agg (by exact ⟨wk_rfl, wk_nil, trivial⟩)) (stp_build [(0, [vstr [112]])] tyZ89 tyP89 rfl ⟨rfl, .inl ⟨_, rfl, rfl, rfl⟩, rfl, trivial⟩)) ?_
 refine seq_run0 (stp_dat (u' := vlst (List.map C_api_Product [(S_api_Product.mk [112] [])])) (stp_lit [_] tyL26 ⟨rfl, .inr rfl, rfl, trivial⟩ rfl rfl) rfl) ?_
 refine seq_run0 (stp_dat (u' := vagg (C_api_Tier (S_api_Tier.mk 1 2000))) (stp_build [(0, [vint 1]), (1, [vint 2000])] tyZ92 tyP92 rfl ⟨rfl, .inl ⟨_, rfl, rfl, rfl⟩, rfl, rfl, .inl ⟨_, rfl, rfl, rfl⟩, rfl, trivial⟩) rfl) ?_
 refine seq_run0 (stp_dat (u' := vlst (List.map C_api_Tier [(S_api_Tier.mk 1 2000)])) (stp_lit [_] tyL62 ⟨rfl, .inr rfl, rfl, trivial⟩ rfl rfl) rfl) ?_
 refine seq_run0 (stp_dat (u' := vagg (C_api_Plan (S_api_Plan.mk [113] [112] 0 0 [(S_api_Tier.mk 1 2000)] 0 0 false))) (stp_build [(0, [vstr [113]]), (1, [vstr [112]]), (4, [vlst (List.map C_api_Tier [(S_api_Tier.mk 1 2000)])])] tyZ64 tyP64 rfl ⟨rfl, .inl ⟨_, rfl, rfl, rfl⟩, rfl, rfl, .inl ⟨_, rfl, rfl, rfl⟩, rfl, rfl, .inl ⟨_, rfl, rfl, rfl⟩, rfl, trivial⟩) rfl) ?_
 refine seq_run0 (stp_dat (u' := vlst (List.map C_api_Plan [(S_api_Plan.mk [113] [112] 0 0 [(S_api_Tier.mk 1 2000)] 0 0 false)])) (stp_lit [_] tyL27 ⟨rfl, .inr rfl, rfl, trivial⟩ rfl rfl) rfl) ?_
 refine seq_run0 (stp_dat (u' := vagg (C_api_Catalog (S_api_Catalog.mk ([(S_api_Product.mk [112] [])]) ([(S_api_Plan.mk [113] [112] 0 0 [(S_api_Tier.mk 1 2000)] 0 0 false)])))) (stp_build [(0, [vlst (List.map C_api_Product ([(S_api_Product.mk [112] [])]))]), (1, [vlst (List.map C_api_Plan ([(S_api_Plan.mk [113] [112] 0 0 [(S_api_Tier.mk 1 2000)] 0 0 false)]))])] tyZ29 tyP29 rfl ⟨rfl, .inl ⟨_, rfl, rfl, rfl⟩, rfl, rfl, .inl ⟨_, rfl, rfl, rfl⟩, rfl, trivial⟩) rfl) ?_
 refine seq_run2 (stp_alloc 1 tyZ29 rfl) rfl ?_
 refine seq_run2 (stp_storeW tyS29 rfl rfl rfl rfl) rfl ?_
 refine awp_seq ?_
 refine awp_plain hN rfl ?_
 refine seq_run1 (stp_loadA tyS29 rfl rfl rfl) rfl ?_
 obtain ⟨r1, h2, H⟩ := bnd H
 refine seq_run0 (stp_call (k_portal_Price (S_api_Catalog.mk ([(S_api_Product.mk [112] [])]) ([(S_api_Plan.mk [113] [112] 0 0 [(S_api_Tier.mk 1 2000)] 0 0 false)])) [113] 3 r1 h2) ⟨.inl rfl, .inl rfl, .inl rfl, trivial⟩) ?_
 refine qd rfl ?_
 refine seq_run0 (stp_ext rfl rfl) ?_
 refine seq_run0 (stp_ext rfl rfl) ?_
 refine qe rfl ?_
 refine qe rfl ?_
 refine awp_seq ?_
 refine awp_plain hN rfl ?_
 refine qd rfl ?_
 refine seq_run0 (stp_eql rfl rfl) ?_
 refine qd rfl ?_
 refine seq_aT rfl rfl (fun hc => stp_move (.dat _) rfl) ?_
 refine seq_aT rfl rfl (fun hc => stp_eql (cnd (c := (decide (r1.2 = 0))) hc) rfl) ?_
 refine seq_run0 (stp_pick_and rfl (fun hb => (cnd (c := (decide (r1.2 = 0))) hb)) rfl) ?_
 refine qe rfl ?_
 refine awp_ret ?_
 cases H
 exact ⟨trivial, .inl rfl, trivial⟩
theorem k_gatelaw2_EventsMerge (v1 : (List Int)) (r : (Bool)) (H : m_gatelaw2_EventsMerge v1 = some r) : Fn Tryz.prog 3 [vlst (List.map C_int v1)] (resOf [vbool r]) := by
 refine ⟨by kernel_rfl, pure_of (us := [vbool r]) Tryz.func3 rfl rfl rfl rfl fun X hN => ?_⟩
 unfold m_gatelaw2_EventsMerge at H
 refine awp_seq ?_
 refine awp_plain hN rfl ?_
 refine qe rfl ?_
 refine awp_seq ?_
 refine awp_plain hN rfl ?_
 refine qd rfl ?_
 refine seq_run0 (stp_dat (u' := vagg (C_gatemake_Stream (S_gatemake_Stream.mk v1 0))) (stp_build [(0, [vlst (List.map C_int v1)])] tyZ25 tyP25 rfl ⟨rfl, .inl ⟨_, rfl, rfl, rfl⟩, rfl, trivial⟩) rfl) ?_
 refine seq_run2 (stp_boxA 1 rfl) rfl ?_
 refine seq_run0 (stp_assign (.ptr _ _) rfl) ?_
 refine awp_seq ?_
 refine awp_plain hN rfl ?_
 refine seq_run0 (stp_move (.ptr _ _) rfl) ?_
 refine seq_run0 (stp_move (.ptr _ _) rfl) ?_
 obtain ⟨r2, h3, H⟩ := bnd H
 refine seq_run2 (stp_imp (k_gatemake_Stream_Range (S_gatemake_Stream.mk v1 0) 0 10 r2 h3) rfl ⟨.inl rfl, .inl rfl, trivial⟩ rfl) rfl ?_
 obtain ⟨r4, h5, H⟩ := bnd H
 refine seq_run2 (stp_imp (k_gatelaw2_office r2.2 r2.1 r4 h5) rfl ⟨.inl rfl, trivial⟩ rfl) rfl ?_
 refine qd rfl ?_
 refine seq_run0 (stp_ext rfl rfl) ?_
 refine seq_run0 (stp_ext rfl rfl) ?_
 refine seq_run0 (stp_ext rfl rfl) ?_
 refine seq_run0 (stp_ext rfl rfl) ?_
 refine seq_run2 (stp_alloc 2 tyZ29 rfl) rfl ?_
 refine seq_run2 (stp_storeW tyS29 rfl rfl rfl rfl) rfl ?_
 refine qe rfl ?_
 refine qe rfl ?_
 refine qe rfl ?_
 refine awp_seq ?_
 refine awp_draw mixed hN rfl rfl ?_
 refine seq_run0 (stp_move (.ptr _ _) rfl) ?_
 refine seq_run1 (stp_loadA tyS29 rfl rfl rfl) rfl ?_
 refine qd rfl ?_
 refine seq_run0 (stp_move (.ptr _ _) rfl) ?_
 obtain ⟨r6, h7, H⟩ := bnd H
 refine seq_run2 (stp_imp (k_gatemake_Stream_Range r4.2.2.2.2 0 6 r6 h7) rfl ⟨.inl rfl, .inl rfl, trivial⟩ rfl) rfl ?_
 obtain ⟨r8, h9, H⟩ := bnd H
 refine seq_run2 (stp_imp (k_gatemake_Stream_Events r6.2 r4.1 r4.2.1 r6.1 r8 h9) rfl ⟨.inl rfl, .inl rfl, .inl rfl, trivial⟩ rfl) rfl ?_
 refine qe rfl ?_
 refine ⟨rfl, ?_⟩
 refine awp_joinE (ι := (List S_api_Event)) (fun i => [(4, .ptr 2 0), (5, .dat (vlst (List.map C_api_App r4.2.1))), (6, .dat (vlst (List.map C_api_Event r4.2.2.1))), (7, .dat (vint r4.2.2.2.1)), (8, .dat (vlst (List.map C_api_Event i)))]) (fun i => [(2, .box none 29 [.dat (vlst (List.map C_api_Product r4.1.Products)), .dat (vlst (List.map C_api_Plan r4.1.Plans))])]) (fun i => gatelaw2_EventsMerge_J1 r4 i = some r) (fun i => rfl) ?_ ?_
 ·skip
  refine awp_joinE (ι := Bool × (List Int) × Int) (fun i => [(3, .ptr 1 0), (4, .ptr 2 0), (5, .dat (vlst (List.map C_api_App r4.2.1))), (6, .dat (vlst (List.map C_api_Event r4.2.2.1))), (7, .dat (vint r4.2.2.2.1)), (8, .dat (vlst (List.map C_api_Event r8.1))), (40, .dat (vbool i.1))]) (fun i => [(1, .box none 25 [.dat (vlst (List.map C_int i.2.1)), .dat (vint i.2.2)]), (2, .box none 29 [.dat (vlst (List.map C_api_Product r4.1.Products)), .dat (vlst (List.map C_api_Plan r4.1.Plans))])]) (fun i => gatelaw2_EventsMerge_J2 r4 r8 i.1 i.2.1 i.2.2 = some r) (fun i => rfl) ?_ ?_
  ·skip
   refine awp_plain hN rfl ?_
   refine qd rfl ?_
   refine seq_run0 (t_len tyU31 rfl) ?_
   refine seq_run0 (stp_gtr rfl rfl) ?_
   refine qd rfl ?_
   refine seq_split (j := 3) rfl rfl (fun h10 => ?_) (fun h10 => ?_) rfl
   ·have h11 := un1 h10
    replace H := ift h11 H
    refine seq_g0 rfl rfl h10 (stp_move (.ptr _ _) rfl) ?_
    obtain ⟨r12, h13, H⟩ := bnd H
    refine seq_g2 rfl rfl h10 (stp_imp (k_gatemake_Stream_Flip r8.2 2 r12 h13) rfl ⟨.inl rfl, trivial⟩ rfl) rfl ?_
    refine seq_run0 (stp_pick_t rfl (bTT h11) rfl) ?_
    exact ⟨(r12.1, r12.2.L, r12.2.at_), H, ⟨rfl, rfl, rfl, rfl, rfl, rfl, rfl, trivial⟩, ⟨rfl, rfl, trivial⟩⟩
   ·have h14 := un2 h10
    replace H := iff_ h14 H
    refine seq_skip rfl rfl h10 ?_
    refine seq_skip rfl rfl h10 ?_
    refine seq_run0 (stp_pick_f rfl (bFF h14) rfl) ?_
    exact ⟨(false, r8.2.L, r8.2.at_), H, ⟨rfl, rfl, rfl, rfl, rfl, rfl, rfl, trivial⟩, ⟨rfl, rfl, trivial⟩⟩
  ·rintro ⟨v15, c16, c17⟩ H
   replace H : gatelaw2_EventsMerge_J2 r4 r8 v15 c16 c17 = some r := H
   unfold gatelaw2_EventsMerge_J2 at H
   refine awp_cond _ rfl (fun h18 => ?_) (fun h18 => ?_)
   ·replace H := ift h18 H
    refine awp_plain hN rfl ?_
    refine qd rfl ?_
    refine seq_run0 (stp_move (.ptr _ _) rfl) ?_
    refine qd rfl ?_
    refine seq_run0 (t_len tyU31 rfl) ?_
    obtain ⟨r19, h20, H⟩ := bnd H
    refine seq_run2 (stp_imp (k_gatemake_Stream_Next (S_gatemake_Stream.mk c16 c17) (r4.2.2.1.length : Int) r19 h20) rfl ⟨.inl rfl, trivial⟩ rfl) rfl ?_
    obtain ⟨l21, h22, H⟩ := bnd H
    refine seq_run0 (t_subL tyE31 (fun _ => rfl) rfl rfl rfl h22) ?_
    obtain ⟨r23, h24, H⟩ := bnd H
    refine seq_run0 (stp_call (k_slices_Clone_L_api_Event_api_Event_ l21 r23 h24) ⟨.inl rfl, trivial⟩) ?_
    refine qe rfl ?_
    exact ⟨r23, H, ⟨rfl, rfl, rfl, rfl, rfl, trivial⟩, ⟨rfl, trivial⟩⟩
   ·replace H := iff_ h18 H
    refine awp_skip ?_
    exact ⟨r8.1, H, ⟨rfl, rfl, rfl, rfl, rfl, trivial⟩, ⟨rfl, trivial⟩⟩
 ·rintro v25 H
  replace H : gatelaw2_EventsMerge_J1 r4 v25 = some r := H
  unfold gatelaw2_EventsMerge_J1 at H
  refine awp_seq ?_
  refine awp_plain hN rfl ?_
  refine seq_run1 (stp_loadA tyS29 rfl rfl rfl) rfl ?_
  refine qd rfl ?_
  refine qd rfl ?_
  refine qd rfl ?_
  obtain ⟨r26, h27, H⟩ := bnd H
  refine seq_run0 (stp_call (k_portal_Merge r4.1 r4.2.1 r4.2.2.1 v25 r26 h27) ⟨.inl rfl, .inl rfl, .inl rfl, .inl rfl, trivial⟩) ?_
  refine qd rfl ?_
  refine seq_run0 (stp_ext rfl rfl) ?_
  refine seq_run0 (stp_ext rfl rfl) ?_
  refine qe rfl ?_
  refine qe rfl ?_
  refine awp_seq ?_
  refine awp_plain hN rfl ?_
  refine seq_run1 (stp_loadA tyS29 rfl rfl rfl) rfl ?_
  refine qd rfl ?_
  refine qd rfl ?_
  obtain ⟨r28, h29, H⟩ := bnd H
  refine seq_run0 (stp_call (k_portal_Refused r4.1 r4.2.1 r4.2.2.1 r28 h29) ⟨.inl rfl, .inl rfl, .inl rfl, trivial⟩) ?_
  refine qd rfl ?_
  refine seq_run0 (stp_ext rfl rfl) ?_
  refine seq_run0 (stp_ext rfl rfl) ?_
  refine qe rfl ?_
  refine qe rfl ?_
  refine awp_seq ?_
  refine awp_joinE (ι := Bool) (fun i => [(4, .ptr 2 0), (5, .dat (vlst (List.map C_api_App r4.2.1))), (6, .dat (vlst (List.map C_api_Event r4.2.2.1))), (7, .dat (vint r4.2.2.2.1)), (8, .dat (vlst (List.map C_api_Event v25))), (9, .dat (vlst (List.map C_api_Event r26.1))), (10, .dat (vint r26.2)), (11, .dat (vlst (List.map C_int r28.1))), (80, .dat (vbool i))]) (fun i => [(2, .box none 29 [.dat (vlst (List.map C_api_Product r4.1.Products)), .dat (vlst (List.map C_api_Plan r4.1.Plans))])]) (fun i => gatelaw2_EventsMerge_J3 r4 v25 r26 r28 i = some r) (fun i => rfl) ?_ ?_
  ·skip
   refine awp_plain hN rfl ?_
   refine qd rfl ?_
   obtain ⟨r30, h31, H⟩ := bnd H
   refine seq_run0 (stp_call (k_portal_CheckApps r4.2.1 r30 h31) ⟨.inl rfl, trivial⟩) ?_
   refine qd rfl ?_
   obtain ⟨r32, h33, H⟩ := bnd H
   refine seq_run0 (stp_call (k_gateref2_AppsFault r4.2.1 r32 h33) ⟨.inl rfl, trivial⟩) ?_
   refine seq_run0 (stp_neq rfl rfl) ?_
   refine qd rfl ?_
   refine seq_split (j := 5) rfl rfl (fun h34 => ?_) (fun h34 => ?_) rfl
   ·have h35 := un3 h34
    replace H := iff_ h35 H
    refine seq_g1 rfl rfl h34 (stp_loadA tyS29 rfl rfl rfl) rfl ?_
    refine seq_g0 rfl rfl h34 (stp_move (.dat _) rfl) ?_
    refine seq_g0 rfl rfl h34 (stp_move (.dat _) rfl) ?_
    obtain ⟨r36, h37, H⟩ := bnd H
    refine seq_g0 rfl rfl h34 (stp_call (k_portal_CheckEvents r4.1 r4.2.1 r4.2.2.1 r36 h37) ⟨.inl rfl, .inl rfl, .inl rfl, trivial⟩) ?_
    refine seq_g0 rfl rfl h34 (stp_move (.dat _) rfl) ?_
    refine seq_g0 rfl rfl h34 (stp_neq rfl rfl) ?_
    refine seq_run0 (stp_pick_f rfl (bFF h35) rfl) ?_
    refine qd rfl ?_
    refine seq_split (j := 13) rfl rfl (fun h38 => ?_) (fun h38 => ?_) rfl
    ·have h39 := un3 h38
     replace H := iff_ h39 H
     refine seq_g0 rfl rfl h38 (stp_move (.dat _) rfl) ?_
     refine seq_g0 rfl rfl h38 (stp_move (.dat _) rfl) ?_
     refine seq_g0 rfl rfl h38 (stp_neq rfl rfl) ?_
     refine seq_run0 (stp_pick_f rfl (bFF h39) rfl) ?_
     exact ⟨decide (r28.2 ≠ r4.2.2.2.1), H, ⟨rfl, rfl, rfl, rfl, rfl, rfl, rfl, rfl, rfl, trivial⟩, ⟨rfl, trivial⟩⟩
    ·have h40 := un4 h38
     replace H := ift h40 H
     refine seq_skip rfl rfl h38 ?_
     refine seq_skip rfl rfl h38 ?_
     refine seq_skip rfl rfl h38 ?_
     refine seq_run0 (stp_pick_t rfl (bTT h40) rfl) ?_
     exact ⟨true, H, ⟨rfl, rfl, rfl, rfl, rfl, rfl, rfl, rfl, rfl, trivial⟩, ⟨rfl, trivial⟩⟩
   ·have h41 := un4 h34
    replace H := ift h41 H
    refine seq_skip rfl rfl h34 ?_
    refine seq_skip rfl rfl h34 ?_
    refine seq_skip rfl rfl h34 ?_
    refine seq_skip rfl rfl h34 ?_
    refine seq_skip rfl rfl h34 ?_
    refine seq_skip rfl rfl h34 ?_
    refine seq_run0 (stp_pick_t rfl (bTT h41) rfl) ?_
    refine qd rfl ?_
    refine seq_skip rfl rfl rfl ?_
    refine seq_skip rfl rfl rfl ?_
    refine seq_skip rfl rfl rfl ?_
    refine seq_run0 (stp_pick_t rfl rfl rfl) ?_
    exact ⟨true, H, ⟨rfl, rfl, rfl, rfl, rfl, rfl, rfl, rfl, rfl, trivial⟩, ⟨rfl, trivial⟩⟩
  ·rintro v42 H
   replace H : gatelaw2_EventsMerge_J3 r4 v25 r26 r28 v42 = some r := H
   unfold gatelaw2_EventsMerge_J3 at H
   refine awp_cond _ rfl (fun h43 => ?_) (fun h43 => ?_)
   ·replace H := ift h43 H
    refine awp_seq ?_
    refine awp_plain hN rfl ?_
    refine qe rfl ?_
    refine awp_ret ?_
    cases H
    exact ⟨trivial, .inl rfl, trivial⟩
   ·replace H := iff_ h43 H
    refine awp_skip ?_
    refine awp_seq ?_
    refine awp_plain hN rfl ?_
    refine qd rfl ?_
    refine seq_run1 (stp_loadA tyS29 rfl rfl rfl) rfl ?_
    refine qd rfl ?_
    refine qd rfl ?_
    obtain ⟨r44, h45, H⟩ := bnd H
    refine seq_run0 (stp_call (k_gateref2_EventsFault r4.1 r4.2.1 v25 r44 h45) ⟨.inl rfl, .inl rfl, .inl rfl, trivial⟩) ?_
    refine seq_run0 (stp_dat (u' := vlst (List.map C_api_Errno [r4.2.2.2.1, r44])) (stp_lit [[_], [_]] tyL83 ⟨rfl, .inl ⟨_, rfl, rfl, rfl⟩, rfl, rfl, .inl ⟨_, rfl, rfl, rfl⟩, rfl, trivial⟩ rfl rfl) rfl) ?_
    obtain ⟨r46, h47, H⟩ := bnd H
    refine seq_run0 (stp_call (k_gatelaw2_errs [r4.2.2.2.1, r44] r46 h47) ⟨.inl rfl, trivial⟩) ?_
    refine qe rfl ?_
    refine awp_seq ?_
    refine awp_plain hN rfl ?_
    refine qe rfl ?_
    refine awp_seq ?_
    refine awp_plain hN rfl ?_
    refine qe rfl ?_
    refine awp_joinW (ι := Int × (List S_api_Event)) (fun i => [(4, .ptr 2 0), (5, .dat (vlst (List.map C_api_App r4.2.1))), (6, .dat (vlst (List.map C_api_Event r4.2.2.1))), (7, .dat (vint r4.2.2.2.1)), (9, .dat (vlst (List.map C_api_Event r26.1))), (10, .dat (vint r26.2)), (11, .dat (vlst (List.map C_int r28.1))), (13, .dat (vint i.1)), (14, .dat (vlst (List.map C_api_Event i.2))), (15, .dat (vnil))]) (fun i => [(2, .box none 29 [.dat (vlst (List.map C_api_Product r4.1.Products)), .dat (vlst (List.map C_api_Plan r4.1.Plans))])]) (fun i => gatelaw2_EventsMerge_J4 r4 r26 r28 i.1 i.2 = some r) (fun i => rfl) (fun i => rfl) ?_ ?_
    ·skip
     refine awp_seq ?_
     refine awp_plain hN rfl ?_
     refine qd rfl ?_
     refine seq_run0 (stp_eql rfl rfl) ?_
     refine awp_cond _ rfl (fun h48 => ?_) (fun h48 => ?_)
     ·replace H := ift h48 H
      refine awp_plain hN rfl ?_
      refine qd rfl ?_
      refine qd rfl ?_
      obtain ⟨r49, h50, H⟩ := bnd H
      refine seq_run0 (stp_call (k_gateref2_EventsOf r4.2.2.1 v25 r49 h50) ⟨.inl rfl, .inl rfl, trivial⟩) ?_
      refine qd rfl ?_
      refine seq_run0 (stp_ext rfl rfl) ?_
      refine seq_run0 (stp_ext rfl rfl) ?_
      refine qe rfl ?_
      refine qe rfl ?_
      exact ⟨(r49.2, r49.1), H, ⟨.inl rfl, .inl rfl, .inl rfl, .inl rfl, .inl rfl, .inl rfl, .inl rfl, .inl rfl, .inl rfl, .inl rfl, trivial⟩, ⟨rfl, trivial⟩⟩
     ·replace H := iff_ h48 H
      refine awp_skip ?_
      exact ⟨(r46, []), H, ⟨.inl rfl, .inl rfl, .inl rfl, .inl rfl, .inl rfl, .inl rfl, .inl rfl, .inl rfl, .inr ⟨rfl, rfl⟩, .inl rfl, trivial⟩, ⟨rfl, trivial⟩⟩
    ·rintro ⟨v51, v52⟩ H
     replace H : gatelaw2_EventsMerge_J4 r4 r26 r28 v51 v52 = some r := H
     unfold gatelaw2_EventsMerge_J4 at H
     refine awp_joinW (ι := (List Int)) (fun i => [(9, .dat (vlst (List.map C_api_Event r26.1))), (10, .dat (vint r26.2)), (11, .dat (vlst (List.map C_int r28.1))), (13, .dat (vint v51)), (14, .dat (vlst (List.map C_api_Event v52))), (15, .dat (vlst (List.map C_int i)))]) (fun i => []) (fun i => gatelaw2_EventsMerge_J5 r26 r28 v51 v52 i = some r) (fun i => rfl) (fun i => rfl) ?_ ?_
     ·skip
      refine awp_seq ?_
      refine awp_plain hN rfl ?_
      refine qd rfl ?_
      refine seq_run0 (stp_eql rfl rfl) ?_
      refine awp_cond _ rfl (fun h53 => ?_) (fun h53 => ?_)
      ·replace H := ift h53 H
       refine awp_plain hN rfl ?_
       refine seq_run1 (stp_loadA tyS29 rfl rfl rfl) rfl ?_
       refine qd rfl ?_
       refine qd rfl ?_
       obtain ⟨r54, h55, H⟩ := bnd H
       refine seq_run0 (stp_call (k_gateref2_RefusedOf r4.1 r4.2.1 r4.2.2.1 r54 h55) ⟨.inl rfl, .inl rfl, .inl rfl, trivial⟩) ?_
       refine qe rfl ?_
       exact ⟨r54, H, ⟨.inl rfl, .inl rfl, .inl rfl, .inl rfl, .inl rfl, .inl rfl, trivial⟩, trivial⟩
      ·replace H := iff_ h53 H
       refine awp_skip ?_
       exact ⟨[], H, ⟨.inl rfl, .inl rfl, .inl rfl, .inl rfl, .inl rfl, .inr ⟨rfl, rfl⟩, trivial⟩, trivial⟩
     ·rintro v56 H
      replace H : gatelaw2_EventsMerge_J5 r26 r28 v51 v52 v56 = some r := H
      unfold gatelaw2_EventsMerge_J5 at H
      refine awp_joinE (ι := Bool) (fun i => [(2, .dat (vbool i))]) (fun i => []) (fun i => gatelaw2_EventsMerge_J6 i = some r) (fun i => rfl) ?_ ?_
      ·skip
       refine awp_plain hN rfl ?_
       refine qd rfl ?_
       refine qd rfl ?_
       refine seq_run0 (stp_eql rfl rfl) ?_
       refine qd rfl ?_
       refine seq_split (j := 3) rfl rfl (fun h57 => ?_) (fun h57 => ?_) rfl
       ·have h58 := un1 h57
        replace H := ift h58 H
        refine seq_g0 rfl rfl h57 (stp_move (.dat _) rfl) ?_
        refine seq_g0 rfl rfl h57 (stp_move (.dat _) rfl) ?_
        obtain ⟨r59, h60, H⟩ := bnd H
        refine seq_g0 rfl rfl h57 (stp_call (k_slices_Equal_L_api_Event_api_Event_ r26.1 v52 r59 h60) ⟨.inl rfl, .inl rfl, trivial⟩) ?_
        refine seq_run0 (stp_pick_t rfl (bTT h58) rfl) ?_
        refine qd rfl ?_
        refine seq_split (j := 8) rfl rfl (fun h61 => ?_) (fun h61 => ?_) rfl
        ·have h62 := un1 h61
         replace H := ift h62 H
         refine seq_g0 rfl rfl h61 (stp_move (.dat _) rfl) ?_
         refine seq_g0 rfl rfl h61 (stp_move (.dat _) rfl) ?_
         obtain ⟨r63, h64, H⟩ := bnd H
         refine seq_g0 rfl rfl h61 (stp_call (k_slices_Equal_L_int_int_ r28.1 v56 r63 h64) ⟨.inl rfl, .inl rfl, trivial⟩) ?_
         refine seq_run0 (stp_pick_t rfl (bTT h62) rfl) ?_
         refine qd rfl ?_
         refine seq_split (j := 13) rfl rfl (fun h65 => ?_) (fun h65 => ?_) rfl
         ·have h66 := un1 h65
          replace H := ift h66 H
          obtain ⟨r67, h68, H⟩ := bnd H
          refine seq_g0 rfl rfl h65 (stp_call (k_gatelaw2_priced  r67 h68) trivial) ?_
          refine seq_run0 (stp_pick_t rfl (bTT h66) rfl) ?_
          refine qe rfl ?_
          exact ⟨r67, H, ⟨rfl, trivial⟩, trivial⟩
         ·have h69 := un2 h65
          replace H := iff_ h69 H
          refine seq_skip rfl rfl h65 ?_
          refine seq_run0 (stp_pick_f rfl (bFF h69) rfl) ?_
          refine qe rfl ?_
          exact ⟨false, H, ⟨rfl, trivial⟩, trivial⟩
        ·have h70 := un2 h61
         replace H := iff_ h70 H
         refine seq_skip rfl rfl h61 ?_
         refine seq_skip rfl rfl h61 ?_
         refine seq_skip rfl rfl h61 ?_
         refine seq_run0 (stp_pick_f rfl (bFF h70) rfl) ?_
         refine qd rfl ?_
         refine seq_skip rfl rfl rfl ?_
         refine seq_run0 (stp_pick_f rfl rfl rfl) ?_
         refine qe rfl ?_
         exact ⟨false, H, ⟨rfl, trivial⟩, trivial⟩
       ·have h71 := un2 h57
        replace H := iff_ h71 H
        refine seq_skip rfl rfl h57 ?_
        refine seq_skip rfl rfl h57 ?_
        refine seq_skip rfl rfl h57 ?_
        refine seq_run0 (stp_pick_f rfl (bFF h71) rfl) ?_
        refine qd rfl ?_
        refine seq_skip rfl rfl rfl ?_
        refine seq_skip rfl rfl rfl ?_
        refine seq_skip rfl rfl rfl ?_
        refine seq_run0 (stp_pick_f rfl rfl rfl) ?_
        refine qd rfl ?_
        refine seq_skip rfl rfl rfl ?_
        refine seq_run0 (stp_pick_f rfl rfl rfl) ?_
        refine qe rfl ?_
        exact ⟨false, H, ⟨rfl, trivial⟩, trivial⟩
      ·rintro v72 H
       replace H : gatelaw2_EventsMerge_J6 v72 = some r := H
       unfold gatelaw2_EventsMerge_J6 at H
       refine awp_ret ?_
       cases H
       exact ⟨trivial, .inl rfl, trivial⟩
end Go.Proofs.YtaolapgdgdmapaaGreatDoor
