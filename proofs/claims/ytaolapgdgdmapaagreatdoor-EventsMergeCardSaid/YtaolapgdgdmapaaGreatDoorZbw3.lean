/- Walks along the models. Printed by a program. -/
import Derived.Test.YtaolapgdgdmapaaGreatDoorZbw2
namespace Go.Proofs.YtaolapgdgdmapaaGreatDoor
open Go.RowKit
set_option linter.unusedVariables false
set_option maxRecDepth 20000
set_option maxHeartbeats 2000000
theorem k_gateref2_after (v1 : S_api_Catalog) (v2 : S_api_Sub) (v3 : S_api_Event) (r : (S_api_Sub × Bool)) (H : m_gateref2_after v1 v2 v3 = some r) : Fn Tryz.prog 58 [vagg (C_api_Catalog v1), vagg (C_api_Sub v2), vagg (C_api_Event v3)] (resOf [vagg (C_api_Sub r.1), vbool r.2]) := by
 refine ⟨by kernel_rfl, pure_of (us := [vagg (C_api_Sub r.1), vbool r.2]) Tryz.func58 rfl rfl rfl rfl fun X hN => ?_⟩
 unfold m_gateref2_after at H
 refine awp_seq ?_
 refine awp_plain hN rfl ?_
 refine seq_run2 (stp_boxA 1 rfl) rfl ?_
 refine seq_run2 (stp_boxA 2 rfl) rfl ?_
 refine seq_run2 (stp_boxA 3 rfl) rfl ?_
 refine seq_run2 (stp_alloc 4 tyZ70 rfl) rfl ?_
 refine qe rfl ?_
 refine awp_seq ?_
 refine awp_joinE (ι := Bool) (fun i => [(3, .ptr 1 0), (4, .ptr 2 0), (5, .ptr 3 0), (6, .ptr 4 0), (18, .dat (vbool i))]) (fun i => [(1, .box none 29 [.dat (vlst (List.map C_api_Product v1.Products)), .dat (vlst (List.map C_api_Plan v1.Plans))]), (2, .box none 70 [.dat (vint v2.State), .dat (vstr v2.Plan), .dat (vint v2.Since), .dat (vint v2.First)]), (3, .box none 40 [.dat (vint v3.At), .dat (vstr v3.App), .dat (vstr v3.Product), .dat (vint v3.Kind), .dat (vstr v3.Plan)]), (4, .box none 70 [.dat (vint 0), .dat (vstr []), .dat (vint 0), .dat (vint 0)])]) (fun i => gateref2_after_J1 v1 v2 v3 i = some r) (fun i => rfl) ?_ ?_
 ·skip
  refine awp_plain hN rfl ?_
  refine seq_run0 (stp_fldP tyF40_3 rfl) ?_
  refine seq_run1 (stp_load1 tyS3 rfl rfl) rfl ?_
  refine seq_run0 (stp_eql rfl rfl) ?_
  refine qd rfl ?_
  refine seq_split (j := 3) rfl rfl (fun h4 => ?_) (fun h4 => ?_) rfl
  ·have h5 := un1 h4
   replace H := ift h5 H
   refine seq_g1 rfl rfl h4 (stp_loadA tyS29 rfl rfl rfl) rfl ?_
   refine seq_g0 rfl rfl h4 (stp_fldP tyF40_4 rfl) ?_
   refine seq_g1 rfl rfl h4 (stp_load1 tyS9 rfl rfl) rfl ?_
   obtain ⟨r6, h7, H⟩ := bnd H
   refine seq_g0 rfl rfl h4 (stp_call (k_gateref2_PlanAt v1 v3.Plan r6 h7) ⟨.inl rfl, .inl rfl, trivial⟩) ?_
   refine seq_g0 rfl rfl h4 (stp_lss rfl rfl) ?_
   refine seq_run0 (stp_pick_t rfl (bTT h5) rfl) ?_
   exact ⟨decide (r6 < 0), H, ⟨rfl, rfl, rfl, rfl, rfl, trivial⟩, ⟨rfl, rfl, rfl, rfl, trivial⟩⟩
  ·have h8 := un2 h4
   replace H := iff_ h8 H
   refine seq_skip rfl rfl h4 ?_
   refine seq_skip rfl rfl h4 ?_
   refine seq_skip rfl rfl h4 ?_
   refine seq_skip rfl rfl h4 ?_
   refine seq_skip rfl rfl h4 ?_
   refine seq_run0 (stp_pick_f rfl (bFF h8) rfl) ?_
   exact ⟨false, H, ⟨rfl, rfl, rfl, rfl, rfl, trivial⟩, ⟨rfl, rfl, rfl, rfl, trivial⟩⟩
 ·rintro v9 H
  replace H : gateref2_after_J1 v1 v2 v3 v9 = some r := H
  unfold gateref2_after_J1 at H
  refine awp_cond _ rfl (fun h10 => ?_) (fun h10 => ?_)
  ·replace H := ift h10 H
   refine awp_seq ?_
   refine awp_plain hN rfl ?_
   refine seq_run1 (stp_loadA tyS70 rfl rfl rfl) rfl ?_
   refine seq_run2 (stp_storeW tyS70 rfl rfl rfl rfl) rfl ?_
   refine qe rfl ?_
   refine awp_ret ?_
   cases H
   exact ⟨trivial, .inl ⟨_, _, _, C_api_Sub v2, rfl, rfl, rfl, rfl, tyS70⟩, .inl rfl, trivial⟩
  ·replace H := iff_ h10 H
   refine awp_skip ?_
   refine awp_seq ?_
   refine awp_plain hN rfl ?_
   refine seq_run1 (stp_loadA tyS70 rfl rfl rfl) rfl ?_
   refine seq_run2 (stp_alloc 5 tyZ70 rfl) rfl ?_
   refine seq_run2 (stp_storeW tyS70 rfl rfl rfl rfl) rfl ?_
   refine awp_seq ?_
   refine awp_plain hN rfl ?_
   refine seq_run0 (stp_fldP tyF40_0 rfl) ?_
   refine seq_run1 (stp_load1 tyS3 rfl rfl) rfl ?_
   refine seq_run0 (stp_fldP tyF70_2 rfl) ?_
   refine seq_run2 (stp_store1 tyS3 rfl rfl rfl rfl) rfl ?_
   refine awp_joinE (ι := Int × Bs × Int) (fun i => [(6, .ptr 4 0), (8, .ptr 5 0)]) (fun i => [(4, .box none 70 [.dat (vint 0), .dat (vstr []), .dat (vint 0), .dat (vint 0)]), (5, .box none 70 [.dat (vint i.1), .dat (vstr i.2.1), .dat (vint v3.At), .dat (vint i.2.2)])]) (fun i => gateref2_after_J2 v3 i.1 i.2.1 i.2.2 = some r) (fun i => rfl) ?_ ?_
   ·skip
    refine awp_block ?_
    refine awp_seq ?_
    refine awp_plain hN rfl ?_
    refine seq_run0 (stp_fldP tyF40_3 rfl) ?_
    refine seq_run1 (stp_load1 tyS3 rfl rfl) rfl ?_
    refine seq_run0 (stp_eql rfl rfl) ?_
    refine qd rfl ?_
    refine seq_aT rfl rfl (fun hc => stp_fldP tyF70_0 rfl) ?_
    refine seq_arT rfl rfl (fun hc => stp_load1 tyS3 (cnd (c := (decide (v3.Kind = 1))) hc) rfl) rfl anti_p ?_
    refine seq_aT rfl rfl (fun hc => stp_eql (cnd (c := (decide (v3.Kind = 1))) hc) rfl) ?_
    refine seq_aT rfl rfl (fun hc => stp_move (.dat _) (cnd (c := (decide (v3.Kind = 1))) hc)) ?_
    refine seq_bF rfl rfl (fun hc => stp_fldP tyF70_0 rfl) ?_
    refine seq_brF rfl rfl (fun hc => stp_load1 tyS3 (cnd (c := ((decide (v3.Kind = 1)) && !(decide (v2.State = 0)))) hc) rfl) rfl anti_p ?_
    refine seq_bF rfl rfl (fun hc => stp_eql (cnd (c := ((decide (v3.Kind = 1)) && !(decide (v2.State = 0)))) hc) rfl) ?_
    refine seq_aT rfl rfl (fun hc => stp_pick_or (cnd (c := (decide (v3.Kind = 1))) hc) rfl (fun hb => (cnd (c := ((decide (v3.Kind = 1)) && !(decide (v2.State = 0)))) (andI hc (notI hb))))) ?_
    refine seq_run0 (stp_pick_and rfl (fun hb => (cnd (c := (decide (v3.Kind = 1))) hb)) rfl) ?_
    refine qe rfl ?_
    refine awp_cond _ rfl (fun h11 => ?_) (fun h11 => ?_)
    ·replace H := ift h11 H
     refine awp_seq ?_
     refine awp_draw mixed hN rfl rfl ?_
     refine seq_run0 (stp_fldP tyF40_4 rfl) ?_
     refine seq_run1 (stp_load1 tyS9 rfl rfl) rfl ?_
     refine seq_run0 (stp_fldP tyF70_0 rfl) ?_
     refine seq_run2 (stp_store1 tyS3 rfl rfl rfl rfl) rfl ?_
     refine seq_run0 (stp_fldP tyF70_1 rfl) ?_
     refine seq_run2 (stp_store1 tyS9 rfl rfl rfl rfl) rfl ?_
     refine seq_run0 (stp_fldP tyF70_3 rfl) ?_
     refine seq_run2 (stp_store1 tyS3 rfl rfl rfl rfl) rfl ?_
     refine ⟨rfl, ?_⟩
     refine awp_seq ?_
     refine awp_draw mixed hN rfl rfl ?_
     refine seq_run0 (stp_fldP tyF29_1 rfl) ?_
     refine seq_run1 (stp_load1 tyS27 rfl rfl) rfl ?_
     refine seq_run1 (stp_loadA tyS29 rfl rfl rfl) rfl ?_
     refine seq_run0 (stp_fldP tyF40_4 rfl) ?_
     refine seq_run1 (stp_load1 tyS9 rfl rfl) rfl ?_
     obtain ⟨r12, h13, H⟩ := bnd H
     refine seq_run0 (stp_call (k_gateref2_PlanAt v1 v3.Plan r12 h13) ⟨.inl rfl, .inl rfl, trivial⟩) ?_
     obtain ⟨x14, h15, H⟩ := bnd H
     refine seq_run0 (t_idxI tyE27 (fun _ => rfl) rfl rfl h15) ?_
     refine seq_run0 (stp_fldE tyF64_7 rfl) ?_
     refine seq_run0 (stp_loadE1 tyS4 rfl (map_at (at_some h15).2) rfl) ?_
     refine seq_run0 (stp_not rfl) ?_
     refine ⟨rfl, ?_⟩
     refine awp_cond _ rfl (fun h16 => ?_) (fun h16 => ?_)
     ·replace H := ift h16 H
      refine awp_draw mixed hN rfl rfl ?_
      refine seq_run0 (stp_fldP tyF40_0 rfl) ?_
      refine seq_run1 (stp_load1 tyS3 rfl rfl) rfl ?_
      refine seq_run0 (stp_fldP tyF70_0 rfl) ?_
      refine seq_run2 (stp_store1 tyS3 rfl rfl rfl rfl) rfl ?_
      refine seq_run0 (stp_fldP tyF70_3 rfl) ?_
      refine seq_run2 (stp_store1 tyS3 rfl rfl rfl rfl) rfl ?_
      refine ⟨rfl, ?_⟩
      exact ⟨(2, v3.Plan, v3.At), H, ⟨rfl, rfl, trivial⟩, ⟨rfl, rfl, trivial⟩⟩
     ·replace H := iff_ h16 H
      refine awp_skip ?_
      exact ⟨(1, v3.Plan, (-1)), H, ⟨rfl, rfl, trivial⟩, ⟨rfl, rfl, trivial⟩⟩
    ·replace H := iff_ h11 H
     refine awp_seq ?_
     refine awp_plain hN rfl ?_
     refine seq_run0 (stp_fldP tyF40_3 rfl) ?_
     refine seq_run1 (stp_load1 tyS3 rfl rfl) rfl ?_
     refine seq_run0 (stp_eql rfl rfl) ?_
     refine qd rfl ?_
     refine seq_aT rfl rfl (fun hc => stp_fldP tyF70_0 rfl) ?_
     refine seq_arT rfl rfl (fun hc => stp_load1 tyS3 (cnd (c := (decide (v3.Kind = 1))) hc) rfl) rfl anti_p ?_
     refine seq_aT rfl rfl (fun hc => stp_eql (cnd (c := (decide (v3.Kind = 1))) hc) rfl) ?_
     refine seq_aT rfl rfl (fun hc => stp_move (.dat _) (cnd (c := (decide (v3.Kind = 1))) hc)) ?_
     refine seq_bF rfl rfl (fun hc => stp_fldP tyF70_0 rfl) ?_
     refine seq_brF rfl rfl (fun hc => stp_load1 tyS3 (cnd (c := ((decide (v3.Kind = 1)) && !(decide (v2.State = 2)))) hc) rfl) rfl anti_p ?_
     refine seq_bF rfl rfl (fun hc => stp_eql (cnd (c := ((decide (v3.Kind = 1)) && !(decide (v2.State = 2)))) hc) rfl) ?_
     refine seq_aT rfl rfl (fun hc => stp_pick_or (cnd (c := (decide (v3.Kind = 1))) hc) rfl (fun hb => (cnd (c := ((decide (v3.Kind = 1)) && !(decide (v2.State = 2)))) (andI hc (notI hb))))) ?_
     refine seq_run0 (stp_pick_and rfl (fun hb => (cnd (c := (decide (v3.Kind = 1))) hb)) rfl) ?_
     refine qe rfl ?_
     refine awp_cond _ rfl (fun h17 => ?_) (fun h17 => ?_)
     ·replace H := ift h17 H
      refine awp_seq ?_
      refine awp_plain hN rfl ?_
      refine seq_run0 (stp_fldP tyF40_4 rfl) ?_
      refine seq_run1 (stp_load1 tyS9 rfl rfl) rfl ?_
      refine seq_run0 (stp_fldP tyF70_1 rfl) ?_
      refine seq_run2 (stp_store1 tyS9 rfl rfl rfl rfl) rfl ?_
      refine awp_joinE (ι := Bool) (fun i => [(4, .ptr 2 0), (6, .ptr 4 0), (8, .ptr 5 0), (90, .dat (vbool i))]) (fun i => [(2, .box none 70 [.dat (vint v2.State), .dat (vstr v2.Plan), .dat (vint v2.Since), .dat (vint v2.First)]), (4, .box none 70 [.dat (vint 0), .dat (vstr []), .dat (vint 0), .dat (vint 0)]), (5, .box none 70 [.dat (vint v2.State), .dat (vstr v3.Plan), .dat (vint v3.At), .dat (vint v2.First)])]) (fun i => gateref2_after_J3 v2 v3 i = some r) (fun i => rfl) ?_ ?_
      ·skip
       refine awp_draw mixed hN rfl rfl ?_
       refine seq_run0 (stp_fldP tyF40_4 rfl) ?_
       refine seq_run1 (stp_load1 tyS9 rfl rfl) rfl ?_
       refine seq_run0 (stp_fldP tyF70_1 rfl) ?_
       refine seq_run1 (stp_load1 tyS9 rfl rfl) rfl ?_
       refine seq_run0 (stp_seql rfl rfl) ?_
       refine qd rfl ?_
       refine seq_split (j := 5) rfl rfl (fun h18 => ?_) (fun h18 => ?_) rfl
       ·have h19 := un3 h18
        replace H := iff_ h19 H
        refine seq_g0 rfl rfl h18 (stp_fldP tyF29_1 rfl) ?_
        refine seq_g1 rfl rfl h18 (stp_load1 tyS27 rfl rfl) rfl ?_
        refine seq_g1 rfl rfl h18 (stp_loadA tyS29 rfl rfl rfl) rfl ?_
        refine seq_g0 rfl rfl h18 (stp_fldP tyF40_4 rfl) ?_
        refine seq_g1 rfl rfl h18 (stp_load1 tyS9 rfl rfl) rfl ?_
        obtain ⟨r20, h21, H⟩ := bnd H
        refine seq_g0 rfl rfl h18 (stp_call (k_gateref2_PlanAt v1 v3.Plan r20 h21) ⟨.inl rfl, .inl rfl, trivial⟩) ?_
        obtain ⟨x22, h23, H⟩ := bnd H
        refine seq_g0 rfl rfl h18 (t_idxI tyE27 (fun _ => rfl) rfl rfl h23) ?_
        refine seq_g0 rfl rfl h18 (stp_fldE tyF64_7 rfl) ?_
        refine seq_g0 rfl rfl h18 (stp_loadE1 tyS4 rfl (map_at (at_some h23).2) rfl) ?_
        refine seq_run0 (stp_pick_f rfl (bFF h19) rfl) ?_
        refine ⟨rfl, ?_⟩
        exact ⟨x22.Asked, H, ⟨rfl, rfl, rfl, rfl, trivial⟩, ⟨rfl, rfl, rfl, trivial⟩⟩
       ·have h24 := un4 h18
        replace H := ift h24 H
        refine seq_skip rfl rfl h18 ?_
        refine seq_skip rfl rfl h18 ?_
        refine seq_skip rfl rfl h18 ?_
        refine seq_skip rfl rfl h18 ?_
        refine seq_skip rfl rfl h18 ?_
        refine seq_skip rfl rfl h18 ?_
        refine seq_skip rfl rfl h18 ?_
        refine seq_skip rfl rfl h18 ?_
        refine seq_skip rfl rfl h18 ?_
        refine seq_run0 (stp_pick_t rfl (bTT h24) rfl) ?_
        refine ⟨rfl, ?_⟩
        exact ⟨true, H, ⟨rfl, rfl, rfl, rfl, trivial⟩, ⟨rfl, rfl, rfl, trivial⟩⟩
      ·rintro v25 H
       replace H : gateref2_after_J3 v2 v3 v25 = some r := H
       unfold gateref2_after_J3 at H
       refine awp_cond _ rfl (fun h26 => ?_) (fun h26 => ?_)
       ·replace H := ift h26 H
        refine awp_seq ?_
        refine awp_plain hN rfl ?_
        refine seq_run1 (stp_loadA tyS70 rfl rfl rfl) rfl ?_
        refine seq_run2 (stp_storeW tyS70 rfl rfl rfl rfl) rfl ?_
        refine qe rfl ?_
        refine awp_ret ?_
        cases H
        exact ⟨trivial, .inl ⟨_, _, _, C_api_Sub v2, rfl, rfl, rfl, rfl, tyS70⟩, .inl rfl, trivial⟩
       ·replace H := iff_ h26 H
        refine awp_skip ?_
        exact ⟨(v2.State, v3.Plan, v2.First), H, ⟨rfl, rfl, trivial⟩, ⟨rfl, rfl, trivial⟩⟩
     ·replace H := iff_ h17 H
      refine awp_seq ?_
      refine awp_plain hN rfl ?_
      refine seq_run0 (stp_fldP tyF40_3 rfl) ?_
      refine seq_run1 (stp_load1 tyS3 rfl rfl) rfl ?_
      refine seq_run0 (stp_eql rfl rfl) ?_
      refine qd rfl ?_
      refine seq_aT rfl rfl (fun hc => stp_fldP tyF70_0 rfl) ?_
      refine seq_arT rfl rfl (fun hc => stp_load1 tyS3 (cnd (c := (decide (v3.Kind = 2))) hc) rfl) rfl anti_p ?_
      refine seq_aT rfl rfl (fun hc => stp_eql (cnd (c := (decide (v3.Kind = 2))) hc) rfl) ?_
      refine seq_run0 (stp_pick_and rfl (fun hb => (cnd (c := (decide (v3.Kind = 2))) hb)) rfl) ?_
      refine qe rfl ?_
      refine awp_cond _ rfl (fun h27 => ?_) (fun h27 => ?_)
      ·replace H := ift h27 H
       refine awp_draw mixed hN rfl rfl ?_
       refine seq_run0 (stp_fldP tyF40_0 rfl) ?_
       refine seq_run1 (stp_load1 tyS3 rfl rfl) rfl ?_
       refine seq_run0 (stp_fldP tyF70_0 rfl) ?_
       refine seq_run2 (stp_store1 tyS3 rfl rfl rfl rfl) rfl ?_
       refine seq_run0 (stp_fldP tyF70_3 rfl) ?_
       refine seq_run2 (stp_store1 tyS3 rfl rfl rfl rfl) rfl ?_
       refine ⟨rfl, ?_⟩
       exact ⟨(2, v2.Plan, v3.At), H, ⟨rfl, rfl, trivial⟩, ⟨rfl, rfl, trivial⟩⟩
      ·replace H := iff_ h27 H
       refine awp_seq ?_
       refine awp_plain hN rfl ?_
       refine seq_run0 (stp_fldP tyF40_3 rfl) ?_
       refine seq_run1 (stp_load1 tyS3 rfl rfl) rfl ?_
       refine seq_run0 (stp_eql rfl rfl) ?_
       refine qd rfl ?_
       refine seq_aT rfl rfl (fun hc => stp_fldP tyF70_0 rfl) ?_
       refine seq_arT rfl rfl (fun hc => stp_load1 tyS3 (cnd (c := (decide (v3.Kind = 3))) hc) rfl) rfl anti_p ?_
       refine seq_aT rfl rfl (fun hc => stp_eql (cnd (c := (decide (v3.Kind = 3))) hc) rfl) ?_
       refine seq_run0 (stp_pick_and rfl (fun hb => (cnd (c := (decide (v3.Kind = 3))) hb)) rfl) ?_
       refine qe rfl ?_
       refine awp_cond _ rfl (fun h28 => ?_) (fun h28 => ?_)
       ·replace H := ift h28 H
        refine awp_plain hN rfl ?_
        refine seq_run0 (stp_fldP tyF70_0 rfl) ?_
        refine seq_run2 (stp_store1 tyS3 rfl rfl rfl rfl) rfl ?_
        exact ⟨(4, v2.Plan, v2.First), H, ⟨rfl, rfl, trivial⟩, ⟨rfl, rfl, trivial⟩⟩
       ·replace H := iff_ h28 H
        refine awp_seq ?_
        refine awp_plain hN rfl ?_
        refine seq_run0 (stp_fldP tyF40_3 rfl) ?_
        refine seq_run1 (stp_load1 tyS3 rfl rfl) rfl ?_
        refine seq_run0 (stp_eql rfl rfl) ?_
        refine qd rfl ?_
        refine seq_aT rfl rfl (fun hc => stp_fldP tyF70_0 rfl) ?_
        refine seq_arT rfl rfl (fun hc => stp_load1 tyS3 (cnd (c := (decide (v3.Kind = 4))) hc) rfl) rfl anti_p ?_
        refine seq_aT rfl rfl (fun hc => stp_eql (cnd (c := (decide (v3.Kind = 4))) hc) rfl) ?_
        refine seq_run0 (stp_pick_and rfl (fun hb => (cnd (c := (decide (v3.Kind = 4))) hb)) rfl) ?_
        refine qe rfl ?_
        refine awp_cond _ rfl (fun h29 => ?_) (fun h29 => ?_)
        ·replace H := ift h29 H
         refine awp_plain hN rfl ?_
         refine seq_run0 (stp_fldP tyF70_0 rfl) ?_
         refine seq_run2 (stp_store1 tyS3 rfl rfl rfl rfl) rfl ?_
         exact ⟨(3, v2.Plan, v2.First), H, ⟨rfl, rfl, trivial⟩, ⟨rfl, rfl, trivial⟩⟩
        ·replace H := iff_ h29 H
         refine awp_seq ?_
         refine awp_plain hN rfl ?_
         refine seq_run0 (stp_fldP tyF40_3 rfl) ?_
         refine seq_run1 (stp_load1 tyS3 rfl rfl) rfl ?_
         refine seq_run0 (stp_eql rfl rfl) ?_
         refine qd rfl ?_
         refine seq_aT rfl rfl (fun hc => stp_fldP tyF70_0 rfl) ?_
         refine seq_arT rfl rfl (fun hc => stp_load1 tyS3 (cnd (c := (decide (v3.Kind = 5))) hc) rfl) rfl anti_p ?_
         refine seq_aT rfl rfl (fun hc => stp_eql (cnd (c := (decide (v3.Kind = 5))) hc) rfl) ?_
         refine seq_run0 (stp_pick_and rfl (fun hb => (cnd (c := (decide (v3.Kind = 5))) hb)) rfl) ?_
         refine qe rfl ?_
         refine awp_cond _ rfl (fun h30 => ?_) (fun h30 => ?_)
         ·replace H := ift h30 H
          refine awp_plain hN rfl ?_
          refine seq_run0 (stp_fldP tyF70_0 rfl) ?_
          refine seq_run2 (stp_store1 tyS3 rfl rfl rfl rfl) rfl ?_
          exact ⟨(2, v2.Plan, v2.First), H, ⟨rfl, rfl, trivial⟩, ⟨rfl, rfl, trivial⟩⟩
         ·replace H := iff_ h30 H
          refine awp_joinE (ι := Bool) (fun i => [(4, .ptr 2 0), (6, .ptr 4 0), (8, .ptr 5 0), (135, .dat (vbool i))]) (fun i => [(2, .box none 70 [.dat (vint v2.State), .dat (vstr v2.Plan), .dat (vint v2.Since), .dat (vint v2.First)]), (4, .box none 70 [.dat (vint 0), .dat (vstr []), .dat (vint 0), .dat (vint 0)]), (5, .box none 70 [.dat (vint v2.State), .dat (vstr v2.Plan), .dat (vint v3.At), .dat (vint v2.First)])]) (fun i => gateref2_after_J4 v2 v3 i = some r) (fun i => rfl) ?_ ?_
          ·skip
           refine awp_plain hN rfl ?_
           refine seq_run0 (stp_fldP tyF40_3 rfl) ?_
           refine seq_run1 (stp_load1 tyS3 rfl rfl) rfl ?_
           refine seq_run0 (stp_eql rfl rfl) ?_
           refine qd rfl ?_
           refine seq_split (j := 3) rfl rfl (fun h31 => ?_) (fun h31 => ?_) rfl
           ·have h32 := un1 h31
            replace H := ift h32 H
            refine seq_g0 rfl rfl h31 (stp_fldP tyF70_0 rfl) ?_
            refine seq_g1 rfl rfl h31 (stp_load1 tyS3 rfl rfl) rfl ?_
            obtain ⟨r33, h34, H⟩ := bnd H
            refine seq_g0 rfl rfl h31 (stp_call (k_gateref2_in v2.State 1 3 r33 h34) ⟨.inl rfl, .inl rfl, .inl rfl, trivial⟩) ?_
            refine seq_run0 (stp_pick_t rfl (bTT h32) rfl) ?_
            refine qe rfl ?_
            exact ⟨r33, H, ⟨rfl, rfl, rfl, rfl, trivial⟩, ⟨rfl, rfl, rfl, trivial⟩⟩
           ·have h35 := un2 h31
            replace H := iff_ h35 H
            refine seq_skip rfl rfl h31 ?_
            refine seq_skip rfl rfl h31 ?_
            refine seq_skip rfl rfl h31 ?_
            refine seq_run0 (stp_pick_f rfl (bFF h35) rfl) ?_
            refine qe rfl ?_
            exact ⟨false, H, ⟨rfl, rfl, rfl, rfl, trivial⟩, ⟨rfl, rfl, rfl, trivial⟩⟩
          ·rintro v36 H
           replace H : gateref2_after_J4 v2 v3 v36 = some r := H
           unfold gateref2_after_J4 at H
           refine awp_cond _ rfl (fun h37 => ?_) (fun h37 => ?_)
           ·replace H := ift h37 H
            refine awp_plain hN rfl ?_
            refine seq_run0 (stp_fldP tyF70_0 rfl) ?_
            refine seq_run2 (stp_store1 tyS3 rfl rfl rfl rfl) rfl ?_
            exact ⟨(4, v2.Plan, v2.First), H, ⟨rfl, rfl, trivial⟩, ⟨rfl, rfl, trivial⟩⟩
           ·replace H := iff_ h37 H
            refine awp_seq ?_
            refine awp_plain hN rfl ?_
            refine seq_run1 (stp_loadA tyS70 rfl rfl rfl) rfl ?_
            refine seq_run2 (stp_storeW tyS70 rfl rfl rfl rfl) rfl ?_
            refine qe rfl ?_
            refine awp_ret ?_
            cases H
            exact ⟨trivial, .inl ⟨_, _, _, C_api_Sub v2, rfl, rfl, rfl, rfl, tyS70⟩, .inl rfl, trivial⟩
   ·rintro ⟨c38, c39, c40⟩ H
    replace H : gateref2_after_J2 v3 c38 c39 c40 = some r := H
    unfold gateref2_after_J2 at H
    refine awp_seq ?_
    refine awp_plain hN rfl ?_
    refine seq_run1 (stp_loadA tyS70 rfl rfl rfl) rfl ?_
    refine seq_run2 (stp_storeW tyS70 rfl rfl rfl rfl) rfl ?_
    refine qe rfl ?_
    refine awp_ret ?_
    cases H
    exact ⟨trivial, .inl ⟨_, _, _, C_api_Sub (S_api_Sub.mk c38 c39 v3.At c40), rfl, rfl, rfl, rfl, tyS70⟩, .inl rfl, trivial⟩
theorem k_gateref2_Stages (c1 : S_api_Catalog) (l2 : (List S_api_Event)) (app3 : Bs) (product4 : Bs) (r : ((List S_api_Sub) × (List Int))) (H : m_gateref2_Stages c1 l2 app3 product4 = some r) : Fn Tryz.prog 27 [vagg (C_api_Catalog c1), vlst (List.map C_api_Event l2), vstr app3, vstr product4] (resOf [vlst (List.map C_api_Sub r.1), vlst (List.map C_int r.2)]) := by
 refine ⟨by kernel_rfl, pure_of (us := [vlst (List.map C_api_Sub r.1), vlst (List.map C_int r.2)]) Tryz.func27 rfl rfl rfl rfl fun X hN => ?_⟩
 unfold m_gateref2_Stages at H
 refine awp_seq ?_
 refine awp_plain hN rfl ?_
 refine seq_run2 (stp_boxA 1 rfl) rfl ?_
 refine qe rfl ?_
 refine qe rfl ?_
 refine awp_seq ?_
 refine awp_plain hN rfl ?_
 obtain ⟨r5, h6, H⟩ := bnd H
 refine seq_run0 (stp_call (k_gateref2_none  r5 h6) trivial) ?_
 refine seq_run2 (t_litR (C := C_api_Sub) 2 ([r5] : (List S_api_Sub)) tyL66 ⟨rfl, .inr rfl, rfl, trivial⟩ rfl rfl rfl) rfl ?_
 refine seq_run0 (stp_assign (.row _ _) rfl) ?_
 refine qe rfl ?_
 refine awp_seq ?_
 refine awp_seq ?_
 refine awp_plain hN rfl ?_
 refine qd rfl ?_
 refine seq_run0 (t_len tyU31 rfl) ?_
 refine qd rfl ?_
 refine awp_block ?_
 refine awp_nilrow 11 3 3 1 rfl rfl rfl ?_
 obtain ⟨h11, H⟩ := gif H
 refine awp_forL (fun (k9 : Nat) (s : (List S_api_Sub) × (List Int)) => [(2, .dat (vstr app3)), (3, .dat (vstr product4)), (4, .ptr 1 0), (10, .row 2 s.1.length), (11, .row 3 s.2.length), (18, .dat (vlst (List.map C_api_Event l2))), (19, .dat (vint (l2.length : Int))), (20, .dat (vint (k9 : Int)))]) (fun (k9 : Nat) (s : (List S_api_Sub) × (List Int)) => [(1, .box none 29 [.dat (vlst (List.map C_api_Product c1.Products)), .dat (vlst (List.map C_api_Plan c1.Plans))]), (2, .row 70 4 (List.map C_api_Sub s.1)), (3, .row 3 1 (List.map C_int s.2))]) (([r5] : (List S_api_Sub)), []) H ⟨rfl, rfl, rfl, rfl, rfl, rfl, rfl, rfl, trivial⟩ ⟨rfl, rfl, rfl, trivial⟩ (fun _ _ => rfl) ?_ ?_
 ·rintro ⟨l7, l8⟩ H
  replace H : gateref2_Stages_E1 l7 l8 = some r := H
  unfold gateref2_Stages_E1 at H
  refine awp_seq ?_
  refine awp_plain hN rfl ?_
  refine seq_run0 (stp_lss rfl rfl) ?_
  refine awp_seq ?_
  refine awp_cond _ rfl (fun h => (lt_t h).elim) (fun h => ?_)
  refine awp_exit ?_
  refine awp_seq ?_
  refine awp_plain hN rfl ?_
  refine seq_run0 (stp_move (.row _ _) rfl) ?_
  refine seq_run0 (stp_move (.row _ _) rfl) ?_
  refine seq_run0 (stp_assign (.row _ _) rfl) ?_
  refine seq_run0 (stp_assign (.row _ _) rfl) ?_
  refine awp_ret ?_
  cases H
  exact ⟨trivial, t_slotv rfl rfl, t_slotv rfl rfl, trivial⟩
 ·rintro k9 x12 ⟨l7, l8⟩ q10 h13 h14 H hq10
  replace H : gateref2_Stages_L1 c1 app3 product4 k9 x12 l7 l8 = some q10 := H
  unfold gateref2_Stages_L1 at H
  refine awp_seq ?_
  refine awp_plain hN rfl ?_
  refine seq_run0 (stp_lss rfl rfl) ?_
  refine awp_seq ?_
  refine awp_cond _ rfl (fun h => ?_) (fun h => (lt_f h13 h).elim)
  refine awp_skip ?_
  refine awp_joinE (ι := (List S_api_Sub) × (List Int)) (fun i => [(2, .dat (vstr app3)), (3, .dat (vstr product4)), (4, .ptr 1 0), (10, .row 2 i.1.length), (11, .row 3 i.2.length), (18, .dat (vlst (List.map C_api_Event l2))), (19, .dat (vint (l2.length : Int))), (20, .dat (vint (k9 : Int)))]) (fun i => [(1, .box none 29 [.dat (vlst (List.map C_api_Product c1.Products)), .dat (vlst (List.map C_api_Plan c1.Plans))]), (2, .row 70 4 (List.map C_api_Sub i.1)), (3, .row 3 1 (List.map C_int i.2))]) (fun i => gateref2_Stages_J2 i.1 i.2 = some q10) (fun i => rfl) ?_ ?_
  ·skip
   refine awp_block ?_
   refine awp_seq ?_
   refine awp_plain hN rfl ?_
   refine qd rfl ?_
   refine seq_run0 (t_idx tyE31 (fun _ => rfl) rfl rfl h14) ?_
   refine seq_run0 (stp_loadEA tyS40 rfl (map_at h14) rfl) ?_
   refine seq_run2 (stp_alloc 4 tyZ40 rfl) rfl ?_
   refine qe rfl ?_
   refine seq_run2 (stp_storeW tyS40 rfl rfl rfl rfl) rfl ?_
   refine awp_seq ?_
   refine awp_seq ?_
   refine awp_plain hN rfl ?_
   refine seq_run0 (stp_fldP tyF40_1 rfl) ?_
   refine seq_run1 (stp_load1 tyS9 rfl rfl) rfl ?_
   refine qd rfl ?_
   refine seq_run0 (stp_sneq rfl rfl) ?_
   refine qd rfl ?_
   refine seq_aF rfl rfl (fun hc => stp_fldP tyF40_2 rfl) ?_
   refine seq_arF rfl rfl (fun hc => stp_load1 tyS9 (cnd (c := (!(decide (x12.App ≠ app3)))) hc) rfl) rfl anti_p ?_
   refine seq_aF rfl rfl (fun hc => stp_move (.dat _) rfl) ?_
   refine seq_aF rfl rfl (fun hc => stp_sneq (cnd (c := (!(decide (x12.App ≠ app3)))) hc) (cnd (c := (!(decide (x12.App ≠ app3)))) hc)) ?_
   refine seq_run0 (stp_pick_or rfl rfl (fun hb => (cnd (c := (!(decide (x12.App ≠ app3)))) (notI hb)))) ?_
   refine awp_cond _ rfl (fun h15 => ?_) (fun h15 => ?_)
   ·replace H := ift h15 H
    refine awp_exit ?_
    exact ⟨(l7, l8), H, ⟨rfl, rfl, rfl, rfl, rfl, rfl, rfl, rfl, trivial⟩, ⟨rfl, rfl, rfl, trivial⟩⟩
   ·replace H := iff_ h15 H
    refine awp_skip ?_
    refine awp_seq ?_
    refine awp_draw mixed hN rfl rfl ?_
    refine seq_run1 (stp_loadA tyS29 rfl rfl rfl) rfl ?_
    refine seq_run0 (stp_move (.row _ _) rfl) ?_
    refine seq_run0 (stp_move (.row _ _) rfl) ?_
    refine seq_run1 (t_lenR tyU66 rfl rfl) rfl ?_
    refine seq_run0 (stp_wrap _ rfl rfl (.inr (.inl ⟨rfl, rfl⟩))) ?_
    obtain ⟨x16, h17, H⟩ := bnd H
    refine seq_run1 (t_idxRI tyE66 rfl rfl rfl h17) rfl ?_
    refine seq_run1 (t_loadRA tyS70 rfl rfl (at_some h17).2 rfl) rfl ?_
    refine seq_run1 (stp_loadA tyS40 rfl rfl rfl) rfl ?_
    obtain ⟨r18, h19, H⟩ := bnd H
    refine seq_run0 (stp_call (k_gateref2_after c1 x16 x12 r18 h19) ⟨.inl rfl, .inl rfl, .inl rfl, trivial⟩) ?_
    refine qd rfl ?_
    refine seq_run0 (stp_ext rfl rfl) ?_
    refine seq_run0 (stp_ext rfl rfl) ?_
    refine seq_run2 (stp_alloc 5 tyZ70 rfl) rfl ?_
    refine seq_run2 (stp_storeW tyS70 rfl rfl rfl rfl) rfl ?_
    refine qe rfl ?_
    refine ⟨rfl, ?_⟩
    refine awp_seq ?_
    refine awp_plain hN rfl ?_
    refine qd rfl ?_
    refine awp_cond _ rfl (fun h20 => ?_) (fun h20 => ?_)
    ·replace H := ift h20 H
     refine awp_plain hN rfl ?_
     refine seq_run0 (stp_move (.row _ _) rfl) ?_
     refine seq_run1 (stp_loadA tyS70 rfl rfl rfl) rfl ?_
     refine seq_run0 (stp_dat (u' := vlst (List.map C_api_Sub [r18.1])) (stp_lit [_] tyL66 ⟨rfl, .inr rfl, rfl, trivial⟩ rfl rfl) rfl) ?_
     obtain ⟨h21, H⟩ := gif H
     refine seq_run2 (t_app tyL66 (fun _ => rfl) rfl rfl rfl ⟨by simp, by first | (simp; done) | simpa using h21⟩ rfl) rfl ?_
     refine seq_run0 (stp_assign (.row _ _) rfl) ?_
     exact ⟨((l7 ++ [r18.1]), l8), H, ⟨rfl, rfl, rfl, rfl, rfl, rfl, rfl, rfl, trivial⟩, ⟨rfl, rfl, rfl, trivial⟩⟩
    ·replace H := iff_ h20 H
     refine awp_plain hN rfl ?_
     refine seq_run0 (stp_move (.row _ _) rfl) ?_
     refine qd rfl ?_
     refine seq_run0 (stp_dat (u' := vlst (List.map C_int [(k9 : Int)])) (stp_lit [[_]] tyL22 ⟨rfl, .inl ⟨_, rfl, rfl, rfl⟩, rfl, trivial⟩ rfl rfl) rfl) ?_
     obtain ⟨h22, H⟩ := gif H
     refine seq_run2 (t_app tyL22 (fun _ => rfl) rfl rfl rfl ⟨by simp, by first | (simp; done) | simpa using h22⟩ rfl) rfl ?_
     refine seq_run0 (stp_assign (.row _ _) rfl) ?_
     exact ⟨(l7, (l8 ++ [(k9 : Int)])), H, ⟨rfl, rfl, rfl, rfl, rfl, rfl, rfl, rfl, trivial⟩, ⟨rfl, rfl, rfl, trivial⟩⟩
  ·rintro ⟨out23, refused24⟩ H
   replace H : gateref2_Stages_J2 out23 refused24 = some q10 := H
   unfold gateref2_Stages_J2 at H
   refine awp_plain hN rfl ?_
   refine seq_run0 (stp_add rfl rfl (by omega)) ?_
   refine qd rfl ?_
   exact ⟨_, backl H, ⟨rfl, rfl, rfl, rfl, rfl, rfl, rfl, rfl, trivial⟩, ⟨rfl, rfl, rfl, trivial⟩⟩
theorem k_gatemake_Stream_AppKey (s1 : S_gatemake_Stream) (r : (Bs × S_gatemake_Stream)) (H : m_gatemake_Stream_AppKey s1 = some r) : Imp Tryz.prog 28 25 (C_gatemake_Stream s1) [] (resOf [vstr r.1]) (C_gatemake_Stream r.2) := by
 refine imp_of (us := [vstr r.1]) (cs' := (C_gatemake_Stream r.2)) (by kernel_rfl) Tryz.func28 rfl rfl rfl rfl fun X bl hN => ?_
 unfold m_gatemake_Stream_AppKey at H
 refine awp_seq ?_
 refine awp_plain hN rfl ?_
 refine qe rfl ?_
 refine awp_seq ?_
 refine awp_plain hN rfl ?_
 refine seq_run0 (stp_move (.ptr _ _) rfl) ?_
 refine seq_run0 (stp_dat (u' := vlst (List.map C_string [[97, 112, 112, 49], [97, 112, 112, 49], [97, 112, 112, 49], [97, 112, 112, 50], [97, 112, 112, 51], [110, 111, 110, 101]])) (stp_lit [[_], [_], [_], [_], [_], [_]] tyL61 ⟨rfl, .inl ⟨_, rfl, rfl, rfl⟩, rfl, rfl, .inl ⟨_, rfl, rfl, rfl⟩, rfl, rfl, .inl ⟨_, rfl, rfl, rfl⟩, rfl, rfl, .inl ⟨_, rfl, rfl, rfl⟩, rfl, rfl, .inl ⟨_, rfl, rfl, rfl⟩, rfl, rfl, .inl ⟨_, rfl, rfl, rfl⟩, rfl, trivial⟩ rfl rfl) rfl) ?_
 obtain ⟨r2, h3, H⟩ := bnd H
 refine seq_run2 (stp_imp (k_gatemake_Stream_Some s1 ([[97, 112, 112, 49], [97, 112, 112, 49], [97, 112, 112, 49], [97, 112, 112, 50], [97, 112, 112, 51], [110, 111, 110, 101]]) r2 h3) rfl ⟨.inl rfl, trivial⟩ rfl) rfl ?_
 refine qe rfl ?_
 refine awp_ret ?_
 cases H
 exact ⟨trivial, ⟨.inl rfl, trivial⟩, rfl⟩
theorem k_gatemake_Stream_ProductKey (s1 : S_gatemake_Stream) (r : (Bs × S_gatemake_Stream)) (H : m_gatemake_Stream_ProductKey s1 = some r) : Imp Tryz.prog 29 25 (C_gatemake_Stream s1) [] (resOf [vstr r.1]) (C_gatemake_Stream r.2) := by
 refine imp_of (us := [vstr r.1]) (cs' := (C_gatemake_Stream r.2)) (by kernel_rfl) Tryz.func29 rfl rfl rfl rfl fun X bl hN => ?_
 unfold m_gatemake_Stream_ProductKey at H
 refine awp_seq ?_
 refine awp_plain hN rfl ?_
 refine qe rfl ?_
 refine awp_seq ?_
 refine awp_plain hN rfl ?_
 refine seq_run0 (stp_move (.ptr _ _) rfl) ?_
 refine seq_run0 (stp_dat (u' := vlst (List.map C_string [[115, 104, 111, 112], [115, 104, 111, 112], [115, 104, 111, 112], [109, 97, 112, 115], [110, 111, 110, 101]])) (stp_lit [[_], [_], [_], [_], [_]] tyL61 ⟨rfl, .inl ⟨_, rfl, rfl, rfl⟩, rfl, rfl, .inl ⟨_, rfl, rfl, rfl⟩, rfl, rfl, .inl ⟨_, rfl, rfl, rfl⟩, rfl, rfl, .inl ⟨_, rfl, rfl, rfl⟩, rfl, rfl, .inl ⟨_, rfl, rfl, rfl⟩, rfl, trivial⟩ rfl rfl) rfl) ?_
 obtain ⟨r2, h3, H⟩ := bnd H
 refine seq_run2 (stp_imp (k_gatemake_Stream_Some s1 ([[115, 104, 111, 112], [115, 104, 111, 112], [115, 104, 111, 112], [109, 97, 112, 115], [110, 111, 110, 101]]) r2 h3) rfl ⟨.inl rfl, trivial⟩ rfl) rfl ?_
 refine qe rfl ?_
 refine awp_ret ?_
 cases H
 exact ⟨trivial, ⟨.inl rfl, trivial⟩, rfl⟩
theorem kv_gateref2_Stages_v1 (c1 : S_api_Catalog) (l2 : (List S_api_Event)) (app3 : Bs) (product4 : Bs) (r : ((List S_api_Sub) × (List Int))) (H : m_gateref2_Stages_v1 c1 l2 app3 product4 = some r) : FnG Tryz.prog 27 [.dat (vagg (C_api_Catalog c1)), .row 0 l2.length, .dat (vstr app3), .dat (vstr product4)] [(0, .rowA undef 40 5 (List.map C_api_Event l2))] (.dat (resOf [vlst (List.map C_api_Sub r.1), vlst (List.map C_int r.2)])) [(0, .rowA undef 40 5 (List.map C_api_Event l2))] := by
 refine fnG_of (by kernel_rfl) Tryz.func27 rfl rfl rfl rfl fun X A hN => ?_
 unfold m_gateref2_Stages_v1 at H
 refine awp_seq ?_
 refine awp_plain hN rfl ?_
 refine seq_run2 (stp_boxA 1 rfl) rfl ?_
 refine qe rfl ?_
 refine qe rfl ?_
 refine awp_seq ?_
 refine awp_plain hN rfl ?_
 obtain ⟨r5, h6, H⟩ := bnd H
 refine seq_run0 (stp_call (k_gateref2_none  r5 h6) trivial) ?_
 refine seq_run2 (t_litR (C := C_api_Sub) 2 ([r5] : (List S_api_Sub)) tyL66 ⟨rfl, .inr rfl, rfl, trivial⟩ rfl rfl rfl) rfl ?_
 refine seq_run0 (stp_assign (.row _ _) rfl) ?_
 refine qe rfl ?_
 refine awp_seq ?_
 refine awp_seq ?_
 refine awp_plain hN rfl ?_
 refine seq_run0 (stp_move (.row _ _) rfl) ?_
 refine seq_run1 (t_lenT tyU31 rfl rfl) rfl ?_
 refine qd rfl ?_
 refine awp_block ?_
 refine awp_nilrow 11 3 3 1 rfl rfl rfl ?_
 obtain ⟨h11, H⟩ := gif H
 refine awp_forL (fun (k9 : Nat) (s : (List S_api_Sub) × (List Int)) => [(2, .dat (vstr app3)), (3, .dat (vstr product4)), (4, .ptr 1 0), (10, .row 2 s.1.length), (11, .row 3 s.2.length), (18, .row 0 l2.length), (19, .dat (vint (l2.length : Int))), (20, .dat (vint (k9 : Int)))]) (fun (k9 : Nat) (s : (List S_api_Sub) × (List Int)) => [(0, .rowA (A.vl 0) 40 5 (List.map C_api_Event l2)), (1, .box none 29 [.dat (vlst (List.map C_api_Product c1.Products)), .dat (vlst (List.map C_api_Plan c1.Plans))]), (2, .row 70 4 (List.map C_api_Sub s.1)), (3, .row 3 1 (List.map C_int s.2))]) (([r5] : (List S_api_Sub)), []) H ⟨rfl, rfl, rfl, rfl, rfl, rfl, rfl, rfl, trivial⟩ ⟨rfl, rfl, rfl, rfl, trivial⟩ (fun _ _ => rfl) ?_ ?_
 ·rintro ⟨l7, l8⟩ H
  replace H : gateref2_Stages_v1_E1 l7 l8 = some r := H
  unfold gateref2_Stages_v1_E1 at H
  refine awp_seq ?_
  refine awp_plain hN rfl ?_
  refine seq_run0 (stp_lss rfl rfl) ?_
  refine awp_seq ?_
  refine awp_cond _ rfl (fun h => (lt_t h).elim) (fun h => ?_)
  refine awp_exit ?_
  refine awp_seq ?_
  refine awp_plain hN rfl ?_
  refine seq_run0 (stp_move (.row _ _) rfl) ?_
  refine seq_run0 (stp_move (.row _ _) rfl) ?_
  refine seq_run0 (stp_assign (.row _ _) rfl) ?_
  refine seq_run0 (stp_assign (.row _ _) rfl) ?_
  refine t_freeze 8 2 rfl rfl rfl ?_
  refine t_freeze 9 3 rfl rfl rfl ?_
  refine awp_ret ?_
  cases H
  exact ⟨trivial, [(8, .dat (vlst (List.map C_api_Sub l7))), (9, .dat (vlst (List.map C_int l8)))], ⟨rfl, rfl, trivial⟩, ⟨rfl, trivial⟩, rfl, .inl ⟨[vlst (List.map C_api_Sub l7), vlst (List.map C_int l8)], ⟨rfl, rfl, trivial⟩, rfl⟩⟩
 ·rintro k9 x12 ⟨l7, l8⟩ q10 h13 h14 H hq10
  replace H : gateref2_Stages_v1_L1 c1 app3 product4 k9 x12 l7 l8 = some q10 := H
  unfold gateref2_Stages_v1_L1 at H
  refine awp_seq ?_
  refine awp_plain hN rfl ?_
  refine seq_run0 (stp_lss rfl rfl) ?_
  refine awp_seq ?_
  refine awp_cond _ rfl (fun h => ?_) (fun h => (lt_f h13 h).elim)
  refine awp_skip ?_
  refine awp_joinE (ι := (List S_api_Sub) × (List Int)) (fun i => [(2, .dat (vstr app3)), (3, .dat (vstr product4)), (4, .ptr 1 0), (10, .row 2 i.1.length), (11, .row 3 i.2.length), (18, .row 0 l2.length), (19, .dat (vint (l2.length : Int))), (20, .dat (vint (k9 : Int)))]) (fun i => [(0, .rowA (A.vl 0) 40 5 (List.map C_api_Event l2)), (1, .box none 29 [.dat (vlst (List.map C_api_Product c1.Products)), .dat (vlst (List.map C_api_Plan c1.Plans))]), (2, .row 70 4 (List.map C_api_Sub i.1)), (3, .row 3 1 (List.map C_int i.2))]) (fun i => gateref2_Stages_v1_J2 i.1 i.2 = some q10) (fun i => rfl) ?_ ?_
  ·skip
   refine awp_block ?_
   refine awp_seq ?_
   refine awp_plain hN rfl ?_
   refine qd rfl ?_
   refine seq_run1 (t_idxT tyE31 rfl rfl rfl h14) rfl ?_
   refine seq_run1 (t_loadTA tyS40 rfl rfl h14 rfl) rfl ?_
   refine seq_run2 (stp_alloc 4 tyZ40 rfl) rfl ?_
   refine qe rfl ?_
   refine seq_run2 (stp_storeW tyS40 rfl rfl rfl rfl) rfl ?_
   refine awp_seq ?_
   refine awp_seq ?_
   refine awp_plain hN rfl ?_
   refine seq_run0 (stp_fldP tyF40_1 rfl) ?_
   refine seq_run1 (stp_load1 tyS9 rfl rfl) rfl ?_
   refine qd rfl ?_
   refine seq_run0 (stp_sneq rfl rfl) ?_
   refine qd rfl ?_
   refine seq_aF rfl rfl (fun hc => stp_fldP tyF40_2 rfl) ?_
   refine seq_arF rfl rfl (fun hc => stp_load1 tyS9 (cnd (c := (!(decide (x12.App ≠ app3)))) hc) rfl) rfl anti_p ?_
   refine seq_aF rfl rfl (fun hc => stp_move (.dat _) rfl) ?_
   refine seq_aF rfl rfl (fun hc => stp_sneq (cnd (c := (!(decide (x12.App ≠ app3)))) hc) (cnd (c := (!(decide (x12.App ≠ app3)))) hc)) ?_
   refine seq_run0 (stp_pick_or rfl rfl (fun hb => (cnd (c := (!(decide (x12.App ≠ app3)))) (notI hb)))) ?_
   refine awp_cond _ rfl (fun h15 => ?_) (fun h15 => ?_)
   ·replace H := ift h15 H
    refine awp_exit ?_
    exact ⟨(l7, l8), H, ⟨rfl, rfl, rfl, rfl, rfl, rfl, rfl, rfl, trivial⟩, ⟨rfl, rfl, rfl, rfl, trivial⟩⟩
   ·replace H := iff_ h15 H
    refine awp_skip ?_
    refine awp_seq ?_
    refine awp_draw mixed hN rfl rfl ?_
    refine seq_run1 (stp_loadA tyS29 rfl rfl rfl) rfl ?_
    refine seq_run0 (stp_move (.row _ _) rfl) ?_
    refine seq_run0 (stp_move (.row _ _) rfl) ?_
    refine seq_run1 (t_lenR tyU66 rfl rfl) rfl ?_
    refine seq_run0 (stp_wrap _ rfl rfl (.inr (.inl ⟨rfl, rfl⟩))) ?_
    obtain ⟨x16, h17, H⟩ := bnd H
    refine seq_run1 (t_idxRI tyE66 rfl rfl rfl h17) rfl ?_
    refine seq_run1 (t_loadRA tyS70 rfl rfl (at_some h17).2 rfl) rfl ?_
    refine seq_run1 (stp_loadA tyS40 rfl rfl rfl) rfl ?_
    obtain ⟨r18, h19, H⟩ := bnd H
    refine seq_run0 (stp_call (k_gateref2_after c1 x16 x12 r18 h19) ⟨.inl rfl, .inl rfl, .inl rfl, trivial⟩) ?_
    refine qd rfl ?_
    refine seq_run0 (stp_ext rfl rfl) ?_
    refine seq_run0 (stp_ext rfl rfl) ?_
    refine seq_run2 (stp_alloc 5 tyZ70 rfl) rfl ?_
    refine seq_run2 (stp_storeW tyS70 rfl rfl rfl rfl) rfl ?_
    refine qe rfl ?_
    refine ⟨rfl, ?_⟩
    refine awp_seq ?_
    refine awp_plain hN rfl ?_
    refine qd rfl ?_
    refine awp_cond _ rfl (fun h20 => ?_) (fun h20 => ?_)
    ·replace H := ift h20 H
     refine awp_plain hN rfl ?_
     refine seq_run0 (stp_move (.row _ _) rfl) ?_
     refine seq_run1 (stp_loadA tyS70 rfl rfl rfl) rfl ?_
     refine seq_run0 (stp_dat (u' := vlst (List.map C_api_Sub [r18.1])) (stp_lit [_] tyL66 ⟨rfl, .inr rfl, rfl, trivial⟩ rfl rfl) rfl) ?_
     obtain ⟨h21, H⟩ := gif H
     refine seq_run2 (t_app tyL66 (fun _ => rfl) rfl rfl rfl ⟨by simp, by first | (simp; done) | simpa using h21⟩ rfl) rfl ?_
     refine seq_run0 (stp_assign (.row _ _) rfl) ?_
     exact ⟨((l7 ++ [r18.1]), l8), H, ⟨rfl, rfl, rfl, rfl, rfl, rfl, rfl, rfl, trivial⟩, ⟨rfl, rfl, rfl, rfl, trivial⟩⟩
    ·replace H := iff_ h20 H
     refine awp_plain hN rfl ?_
     refine seq_run0 (stp_move (.row _ _) rfl) ?_
     refine qd rfl ?_
     refine seq_run0 (stp_dat (u' := vlst (List.map C_int [(k9 : Int)])) (stp_lit [[_]] tyL22 ⟨rfl, .inl ⟨_, rfl, rfl, rfl⟩, rfl, trivial⟩ rfl rfl) rfl) ?_
     obtain ⟨h22, H⟩ := gif H
     refine seq_run2 (t_app tyL22 (fun _ => rfl) rfl rfl rfl ⟨by simp, by first | (simp; done) | simpa using h22⟩ rfl) rfl ?_
     refine seq_run0 (stp_assign (.row _ _) rfl) ?_
     exact ⟨(l7, (l8 ++ [(k9 : Int)])), H, ⟨rfl, rfl, rfl, rfl, rfl, rfl, rfl, rfl, trivial⟩, ⟨rfl, rfl, rfl, rfl, trivial⟩⟩
  ·rintro ⟨out23, refused24⟩ H
   replace H : gateref2_Stages_v1_J2 out23 refused24 = some q10 := H
   unfold gateref2_Stages_v1_J2 at H
   refine awp_plain hN rfl ?_
   refine seq_run0 (stp_add rfl rfl (by omega)) ?_
   refine qd rfl ?_
   exact ⟨_, backl H, ⟨rfl, rfl, rfl, rfl, rfl, rfl, rfl, rfl, trivial⟩, ⟨rfl, rfl, rfl, rfl, trivial⟩⟩
theorem k_gatemake_Stream_Events (s1 : S_gatemake_Stream) (v2 : S_api_Catalog) (v3 : (List S_api_App)) (v4 : Int) (r : ((List S_api_Event) × S_gatemake_Stream)) (H : m_gatemake_Stream_Events s1 v2 v3 v4 = some r) : Imp Tryz.prog 6 25 (C_gatemake_Stream s1) [vagg (C_api_Catalog v2), vlst (List.map C_api_App v3), vint v4] (resOf [vlst (List.map C_api_Event r.1)]) (C_gatemake_Stream r.2) := by
 refine imp_of (us := [vlst (List.map C_api_Event r.1)]) (cs' := (C_gatemake_Stream r.2)) (by kernel_rfl) Tryz.func6 rfl rfl rfl rfl fun X bl hN => ?_
 unfold m_gatemake_Stream_Events at H
 refine awp_seq ?_
 refine awp_plain hN rfl ?_
 refine seq_run2 (stp_boxA 1 rfl) rfl ?_
 refine qe rfl ?_
 refine awp_seq ?_
 refine awp_plain hN rfl ?_
 refine qe rfl ?_
 refine awp_seq ?_
 refine awp_plain hN rfl ?_
 refine qe rfl ?_
 refine awp_seq ?_
 refine awp_seq ?_
 refine awp_plain hN rfl ?_
 refine qd rfl ?_
 refine qd rfl ?_
 refine awp_block ?_
 refine awp_nilrow 9 2 40 5 rfl rfl rfl ?_
 obtain ⟨h11, H⟩ := gif H
 refine awp_rng (fun (k9 : Nat) (s : Int × (List Int) × Int × (List S_api_Event)) => [(0, .ptr 0 0), (2, .dat (vlst (List.map C_api_App v3))), (5, .ptr 1 0), (9, .row 2 s.2.2.2.length), (10, .dat (vint s.1)), (17, .dat (vint v4)), (18, .dat (vint (k9 : Int)))]) (fun (k9 : Nat) (s : Int × (List Int) × Int × (List S_api_Event)) => [(0, .box (some bl) 25 [.dat (vlst (List.map C_int s.2.1)), .dat (vint s.2.2.1)]), (1, .box none 29 [.dat (vlst (List.map C_api_Product v2.Products)), .dat (vlst (List.map C_api_Plan v2.Plans))]), (2, .row 40 5 (List.map C_api_Event s.2.2.2))]) (0, s1.L, s1.at_, []) H ⟨rfl, rfl, rfl, rfl, rfl, rfl, rfl, trivial⟩ ⟨rfl, rfl, rfl, trivial⟩ (fun _ _ => rfl) ?_ ?_
 ·rintro ⟨v5, c6, c7, l8⟩ H
  replace H : gatemake_Stream_Events_E1 v5 c6 c7 l8 = some r := H
  unfold gatemake_Stream_Events_E1 at H
  refine awp_seq ?_
  refine awp_plain hN rfl ?_
  refine seq_run0 (stp_lss rfl rfl) ?_
  refine awp_seq ?_
  refine awp_cond _ rfl (fun h => (lt_tI h).elim) (fun h => ?_)
  refine awp_exit ?_
  refine awp_seq ?_
  refine awp_plain hN rfl ?_
  refine seq_run0 (stp_move (.row _ _) rfl) ?_
  obtain ⟨r12, h13, H⟩ := bnd H
  obtain ⟨h14, H⟩ := gif H
  refine seq_callG (rn [(0, 2)]) [(0, _, _, some _)] [] (kt_slices_SortStableFunc_L_api_Event_api_Event_ l8 (fun (a0 : S_api_Event) (a1 : S_api_Event) => m_gateref2_EventOrder a0 a1) 32 [] (fun a0 a1 r h => k_gateref2_EventOrder a0 a1 r h) r12 h13) ⟨rfl, trivial⟩ ⟨.inl (.inl rfl), .inr ⟨_, rfl, rfl⟩, trivial⟩ ⟨⟨⟨rfl, rfl, rfl⟩, by simp [stayP, h14]⟩, trivial⟩ rfl ?_
  refine awp_seq ?_
  refine awp_seq ?_
  refine awp_plain hN rfl ?_
  refine seq_run0 (stp_move (.ptr _ _) rfl) ?_
  obtain ⟨r15, h16, H⟩ := bnd H
  refine seq_run2 (stp_imp (k_gatemake_Stream_Flip (S_gatemake_Stream.mk c6 c7) 60 r15 h16) rfl ⟨.inl rfl, trivial⟩ rfl) rfl ?_
  refine awp_cond _ rfl (fun h17 => ?_) (fun h17 => ?_)
  ·replace H := ift h17 H
   refine awp_seq ?_
   refine awp_plain hN rfl ?_
   refine seq_run0 (stp_move (.row _ _) rfl) ?_
   refine seq_run0 (stp_assign (.row _ _) rfl) ?_
   refine awp_ret ?_
   cases H
   exact ⟨trivial, ⟨t_slotv rfl (h14).symm, trivial⟩, rfl⟩
  ·replace H := iff_ h17 H
   refine awp_skip ?_
   refine awp_seq ?_
   refine awp_plain hN rfl ?_
   refine seq_run0 (stp_move (.row _ _) rfl) ?_
   obtain ⟨r18, h19, H⟩ := bnd H
   refine seq_callG (rn [(0, 2), (900, 3)]) [(0, _, _, none)] [(900, _)] (ks_slices_CompactFunc_L_api_Event_api_Event_ r12 (fun (a0 : S_api_Event) (a1 : S_api_Event) => m_gatemake_Stream_Events_1 a0 a1) 34 [] (fun a0 a1 r h => k_gatemake_Stream_Events_1 a0 a1 r h) r18 h19) ⟨rfl, rfl, trivial⟩ ⟨.inl (.inl (congrArg (Slot.row 2) (h14).symm)), .inr ⟨_, rfl, rfl⟩, trivial⟩ ⟨⟨⟨rfl, rfl, rfl⟩, trivial⟩, trivial⟩ rfl ?_
   refine seq_run0 (stp_assign (.row _ _) rfl) ?_
   refine awp_ret ?_
   cases H
   exact ⟨trivial, ⟨t_slotv rfl rfl, trivial⟩, rfl⟩
 ·rintro k9 ⟨v5, c6, c7, l8⟩ q10 h20 H hq10
  replace H : gatemake_Stream_Events_L1 v2 v3 k9 v5 c6 c7 l8 = some q10 := H
  unfold gatemake_Stream_Events_L1 at H
  refine awp_seq ?_
  refine awp_plain hN rfl ?_
  refine seq_run0 (stp_lss rfl rfl) ?_
  refine awp_seq ?_
  refine awp_cond _ rfl (fun h => ?_) (fun h => (lt_fI h20 h).elim)
  refine awp_skip ?_
  refine awp_joinE (ι := Int × (List S_api_Event) × (List Int) × Int) (fun i => [(0, .ptr 0 0), (2, .dat (vlst (List.map C_api_App v3))), (5, .ptr 1 0), (9, .row 2 i.2.1.length), (10, .dat (vint i.1)), (17, .dat (vint v4)), (18, .dat (vint (k9 : Int)))]) (fun i => [(0, .box (some bl) 25 [.dat (vlst (List.map C_int i.2.2.1)), .dat (vint i.2.2.2)]), (1, .box none 29 [.dat (vlst (List.map C_api_Product v2.Products)), .dat (vlst (List.map C_api_Plan v2.Plans))]), (2, .row 40 5 (List.map C_api_Event i.2.1))]) (fun i => gatemake_Stream_Events_J2 i.1 i.2.1 i.2.2.1 i.2.2.2 = some q10) (fun i => rfl) ?_ ?_
  ·skip
   refine awp_block ?_
   refine awp_seq ?_
   refine awp_plain hN rfl ?_
   refine qd rfl ?_
   refine seq_run0 (stp_move (.ptr _ _) rfl) ?_
   refine qd rfl ?_
   refine seq_run0 (stp_remT rfl rfl (by decide)) ?_
   refine seq_run0 (stp_wrap _ rfl rfl (.inr (.inl ⟨rfl, rfl⟩))) ?_
   refine seq_run0 (stp_dat (u' := vlst (List.map C_int [1, 5, 86400000, 864000000, 2592000000, wr (2592000000 - (Int.tmod v5 2592000000))])) (stp_lit [[_], [_], [_], [_], [_], [_]] tyL22 ⟨rfl, .inl ⟨_, rfl, rfl, rfl⟩, rfl, rfl, .inl ⟨_, rfl, rfl, rfl⟩, rfl, rfl, .inl ⟨_, rfl, rfl, rfl⟩, rfl, rfl, .inl ⟨_, rfl, rfl, rfl⟩, rfl, rfl, .inl ⟨_, rfl, rfl, rfl⟩, rfl, rfl, .inl ⟨_, rfl, rfl, rfl⟩, rfl, trivial⟩ rfl rfl) rfl) ?_
   obtain ⟨r21, h22, H⟩ := bnd H
   refine seq_run2 (stp_imp (k_gatemake_Stream_Pick (S_gatemake_Stream.mk c6 c7) [1, 5, 86400000, 864000000, 2592000000, wr (2592000000 - (Int.tmod v5 2592000000))] r21 h22) rfl ⟨.inl rfl, trivial⟩ rfl) rfl ?_
   refine seq_run0 (stp_wrap _ rfl rfl (.inl ⟨rfl, rfl⟩)) ?_
   refine qe rfl ?_
   refine awp_seq ?_
   refine awp_plain hN rfl ?_
   refine qd rfl ?_
   refine seq_run0 (stp_move (.ptr _ _) rfl) ?_
   refine seq_run0 (stp_dat (u' := vlst (List.map C_string [[97, 112, 112, 49], [97, 112, 112, 49], [97, 112, 112, 50]])) (stp_lit [[_], [_], [_]] tyL61 ⟨rfl, .inl ⟨_, rfl, rfl, rfl⟩, rfl, rfl, .inl ⟨_, rfl, rfl, rfl⟩, rfl, rfl, .inl ⟨_, rfl, rfl, rfl⟩, rfl, trivial⟩ rfl rfl) rfl) ?_
   obtain ⟨r23, h24, H⟩ := bnd H
   refine seq_run2 (stp_imp (k_gatemake_Stream_Some r21.2 ([[97, 112, 112, 49], [97, 112, 112, 49], [97, 112, 112, 50]]) r23 h24) rfl ⟨.inl rfl, trivial⟩ rfl) rfl ?_
   refine seq_run0 (stp_move (.ptr _ _) rfl) ?_
   refine seq_run0 (stp_dat (u' := vlst (List.map C_string [[115, 104, 111, 112], [115, 104, 111, 112], [109, 97, 112, 115]])) (stp_lit [[_], [_], [_]] tyL61 ⟨rfl, .inl ⟨_, rfl, rfl, rfl⟩, rfl, rfl, .inl ⟨_, rfl, rfl, rfl⟩, rfl, rfl, .inl ⟨_, rfl, rfl, rfl⟩, rfl, trivial⟩ rfl rfl) rfl) ?_
   obtain ⟨r25, h26, H⟩ := bnd H
   refine seq_run2 (stp_imp (k_gatemake_Stream_Some r23.2 ([[115, 104, 111, 112], [115, 104, 111, 112], [109, 97, 112, 115]]) r25 h26) rfl ⟨.inl rfl, trivial⟩ rfl) rfl ?_
   refine seq_run0 (stp_move (.ptr _ _) rfl) ?_
   obtain ⟨r27, h28, H⟩ := bnd H
   refine seq_run2 (stp_imp (k_gatemake_Stream_Range r25.2 1 6 r27 h28) rfl ⟨.inl rfl, .inl rfl, trivial⟩ rfl) rfl ?_
   refine seq_run0 (stp_dat (u' := vagg (C_api_Event (S_api_Event.mk (wr (v5 + r21.1)) r23.1 r25.1 r27.1 []))) (stp_build [(0, [vint (wr (v5 + r21.1))]), (1, [vstr r23.1]), (2, [vstr r25.1]), (3, [vint r27.1])] tyZ40 tyP40 rfl ⟨rfl, .inl ⟨_, rfl, rfl, rfl⟩, rfl, rfl, .inl ⟨_, rfl, rfl, rfl⟩, rfl, rfl, .inl ⟨_, rfl, rfl, rfl⟩, rfl, rfl, .inl ⟨_, rfl, rfl, rfl⟩, rfl, trivial⟩) rfl) ?_
   refine seq_run2 (stp_alloc 4 tyZ40 rfl) rfl ?_
   refine seq_run2 (stp_storeW tyS40 rfl rfl rfl rfl) rfl ?_
   refine awp_joinE (ι := (List Int) × Int × Bs) (fun i => [(0, .ptr 0 0), (2, .dat (vlst (List.map C_api_App v3))), (5, .ptr 1 0), (9, .row 2 l8.length), (10, .dat (vint (wr (v5 + r21.1)))), (11, .ptr 4 0), (17, .dat (vint v4)), (18, .dat (vint (k9 : Int)))]) (fun i => [(0, .box (some bl) 25 [.dat (vlst (List.map C_int i.1)), .dat (vint i.2.1)]), (1, .box none 29 [.dat (vlst (List.map C_api_Product v2.Products)), .dat (vlst (List.map C_api_Plan v2.Plans))]), (2, .row 40 5 (List.map C_api_Event l8)), (4, .box none 40 [.dat (vint (wr (v5 + r21.1))), .dat (vstr i.2.2), .dat (vstr r25.1), .dat (vint r27.1), .dat (vstr [])])]) (fun i => gatemake_Stream_Events_J3 v2 v5 l8 r21 r25 r27 i.1 i.2.1 i.2.2 = some q10) (fun i => rfl) ?_ ?_
   ·skip
    refine awp_joinE (ι := Bool × (List Int) × Int) (fun i => [(0, .ptr 0 0), (2, .dat (vlst (List.map C_api_App v3))), (5, .ptr 1 0), (9, .row 2 l8.length), (10, .dat (vint (wr (v5 + r21.1)))), (11, .ptr 4 0), (17, .dat (vint v4)), (18, .dat (vint (k9 : Int))), (44, .dat (vbool i.1))]) (fun i => [(0, .box (some bl) 25 [.dat (vlst (List.map C_int i.2.1)), .dat (vint i.2.2)]), (1, .box none 29 [.dat (vlst (List.map C_api_Product v2.Products)), .dat (vlst (List.map C_api_Plan v2.Plans))]), (2, .row 40 5 (List.map C_api_Event l8)), (4, .box none 40 [.dat (vint (wr (v5 + r21.1))), .dat (vstr r23.1), .dat (vstr r25.1), .dat (vint r27.1), .dat (vstr [])])]) (fun i => gatemake_Stream_Events_J4 v2 v3 v5 l8 r21 r23 r25 r27 i.1 i.2.1 i.2.2 = some q10) (fun i => rfl) ?_ ?_
    ·skip
     refine awp_plain hN rfl ?_
     refine qd rfl ?_
     refine seq_run0 (t_len tyU30 rfl) ?_
     refine seq_run0 (stp_gtr rfl rfl) ?_
     refine qd rfl ?_
     refine seq_split (j := 3) rfl rfl (fun h29 => ?_) (fun h29 => ?_) rfl
     ·have h30 := un1 h29
      replace H := ift h30 H
      refine seq_g0 rfl rfl h29 (stp_move (.ptr _ _) rfl) ?_
      obtain ⟨r31, h32, H⟩ := bnd H
      refine seq_g2 rfl rfl h29 (stp_imp (k_gatemake_Stream_Flip r27.2 3 r31 h32) rfl ⟨.inl rfl, trivial⟩ rfl) rfl ?_
      refine seq_run0 (stp_pick_t rfl (bTT h30) rfl) ?_
      exact ⟨(r31.1, r31.2.L, r31.2.at_), H, ⟨rfl, rfl, rfl, rfl, rfl, rfl, rfl, rfl, rfl, trivial⟩, ⟨rfl, rfl, rfl, rfl, trivial⟩⟩
     ·have h33 := un2 h29
      replace H := iff_ h33 H
      refine seq_skip rfl rfl h29 ?_
      refine seq_skip rfl rfl h29 ?_
      refine seq_run0 (stp_pick_f rfl (bFF h33) rfl) ?_
      exact ⟨(false, r27.2.L, r27.2.at_), H, ⟨rfl, rfl, rfl, rfl, rfl, rfl, rfl, rfl, rfl, trivial⟩, ⟨rfl, rfl, rfl, rfl, trivial⟩⟩
    ·rintro ⟨v34, c35, c36⟩ H
     replace H : gatemake_Stream_Events_J4 v2 v3 v5 l8 r21 r23 r25 r27 v34 c35 c36 = some q10 := H
     unfold gatemake_Stream_Events_J4 at H
     refine awp_cond _ rfl (fun h37 => ?_) (fun h37 => ?_)
     ·replace H := ift h37 H
      refine awp_plain hN rfl ?_
      refine qd rfl ?_
      refine seq_run0 (stp_move (.ptr _ _) rfl) ?_
      refine qd rfl ?_
      refine seq_run0 (t_len tyU30 rfl) ?_
      obtain ⟨r38, h39, H⟩ := bnd H
      refine seq_run2 (stp_imp (k_gatemake_Stream_Next (S_gatemake_Stream.mk c35 c36) (v3.length : Int) r38 h39) rfl ⟨.inl rfl, trivial⟩ rfl) rfl ?_
      obtain ⟨x40, h41, H⟩ := bnd H
      refine seq_run0 (t_idxI tyE30 (fun _ => rfl) rfl rfl h41) ?_
      refine seq_run0 (stp_fldE tyF60_0 rfl) ?_
      refine seq_run0 (stp_loadE1 tyS9 rfl (map_at (at_some h41).2) rfl) ?_
      refine seq_run0 (stp_fldP tyF40_1 rfl) ?_
      refine seq_run2 (stp_store1 tyS9 rfl rfl rfl rfl) rfl ?_
      exact ⟨(r38.2.L, r38.2.at_, x40.Key), H, ⟨rfl, rfl, rfl, rfl, rfl, rfl, rfl, rfl, trivial⟩, ⟨rfl, rfl, rfl, rfl, trivial⟩⟩
     ·replace H := iff_ h37 H
      refine awp_skip ?_
      exact ⟨(c35, c36, r23.1), H, ⟨rfl, rfl, rfl, rfl, rfl, rfl, rfl, rfl, trivial⟩, ⟨rfl, rfl, rfl, rfl, trivial⟩⟩
   ·rintro ⟨c42, c43, c44⟩ H
    replace H : gatemake_Stream_Events_J3 v2 v5 l8 r21 r25 r27 c42 c43 c44 = some q10 := H
    unfold gatemake_Stream_Events_J3 at H
    refine awp_seq ?_
    refine awp_plain hN rfl ?_
    refine qe rfl ?_
    refine awp_seq ?_
    refine awp_seq ?_
    refine awp_plain hN rfl ?_
    refine seq_run0 (stp_fldP tyF29_1 rfl) ?_
    refine seq_run1 (stp_load1 tyS27 rfl rfl) rfl ?_
    refine seq_run0 (t_len tyU27 rfl) ?_
    refine qd rfl ?_
    refine awp_block ?_
    refine awp_nilrow 12 5 9 1 rfl rfl rfl ?_
    obtain ⟨h48, H⟩ := gif H
    refine awp_forL (fun (k46 : Nat) (s : (List Bs)) => [(0, .ptr 0 0), (2, .dat (vlst (List.map C_api_App v3))), (5, .ptr 1 0), (9, .row 2 l8.length), (10, .dat (vint (wr (v5 + r21.1)))), (11, .ptr 4 0), (12, .row 5 s.length), (17, .dat (vint v4)), (18, .dat (vint (k9 : Int))), (55, .dat (vlst (List.map C_api_Plan v2.Plans))), (56, .dat (vint (v2.Plans.length : Int))), (57, .dat (vint (k46 : Int)))]) (fun (k46 : Nat) (s : (List Bs)) => [(0, .box (some bl) 25 [.dat (vlst (List.map C_int c42)), .dat (vint c43)]), (1, .box none 29 [.dat (vlst (List.map C_api_Product v2.Products)), .dat (vlst (List.map C_api_Plan v2.Plans))]), (2, .row 40 5 (List.map C_api_Event l8)), (4, .box none 40 [.dat (vint (wr (v5 + r21.1))), .dat (vstr c44), .dat (vstr r25.1), .dat (vint r27.1), .dat (vstr [])]), (5, .row 9 1 (List.map C_string s))]) [] H ⟨rfl, rfl, rfl, rfl, rfl, rfl, rfl, rfl, rfl, rfl, rfl, rfl, trivial⟩ ⟨rfl, rfl, rfl, rfl, rfl, trivial⟩ (fun _ _ => rfl) ?_ ?_
    ·rintro l45 H
     replace H : gatemake_Stream_Events_E5 v2 v5 l8 r21 r25 r27 c42 c43 c44 l45 = some q10 := H
     unfold gatemake_Stream_Events_E5 at H
     refine awp_seq ?_
     refine awp_plain hN rfl ?_
     refine seq_run0 (stp_lss rfl rfl) ?_
     refine awp_seq ?_
     refine awp_cond _ rfl (fun h => (lt_t h).elim) (fun h => ?_)
     refine awp_exit ?_
     refine awp_joinE (ι := (List Int) × Int × Int) (fun i => [(0, .ptr 0 0), (2, .dat (vlst (List.map C_api_App v3))), (5, .ptr 1 0), (9, .row 2 l8.length), (10, .dat (vint (wr (v5 + r21.1)))), (11, .ptr 4 0), (12, .row 5 l45.length), (17, .dat (vint v4)), (18, .dat (vint (k9 : Int)))]) (fun i => [(0, .box (some bl) 25 [.dat (vlst (List.map C_int i.1)), .dat (vint i.2.1)]), (1, .box none 29 [.dat (vlst (List.map C_api_Product v2.Products)), .dat (vlst (List.map C_api_Plan v2.Plans))]), (2, .row 40 5 (List.map C_api_Event l8)), (4, .box none 40 [.dat (vint (wr (v5 + r21.1))), .dat (vstr c44), .dat (vstr r25.1), .dat (vint i.2.2), .dat (vstr [])]), (5, .row 9 1 (List.map C_string l45))]) (fun i => gatemake_Stream_Events_J6 v5 l8 r21 r25 c44 l45 i.1 i.2.1 i.2.2 = some q10) (fun i => rfl) ?_ ?_
     ·skip
      refine awp_joinE (ι := Bool × (List Int) × Int) (fun i => [(0, .ptr 0 0), (2, .dat (vlst (List.map C_api_App v3))), (5, .ptr 1 0), (9, .row 2 l8.length), (10, .dat (vint (wr (v5 + r21.1)))), (11, .ptr 4 0), (12, .row 5 l45.length), (17, .dat (vint v4)), (18, .dat (vint (k9 : Int))), (79, .dat (vbool i.1))]) (fun i => [(0, .box (some bl) 25 [.dat (vlst (List.map C_int i.2.1)), .dat (vint i.2.2)]), (1, .box none 29 [.dat (vlst (List.map C_api_Product v2.Products)), .dat (vlst (List.map C_api_Plan v2.Plans))]), (2, .row 40 5 (List.map C_api_Event l8)), (4, .box none 40 [.dat (vint (wr (v5 + r21.1))), .dat (vstr c44), .dat (vstr r25.1), .dat (vint r27.1), .dat (vstr [])]), (5, .row 9 1 (List.map C_string l45))]) (fun i => gatemake_Stream_Events_J7 v2 v5 l8 r21 r25 r27 c44 l45 i.1 i.2.1 i.2.2 = some q10) (fun i => rfl) ?_ ?_
      ·skip
       refine awp_plain hN rfl ?_
       refine seq_run0 (stp_move (.ptr _ _) rfl) ?_
       obtain ⟨r50, h51, H⟩ := bnd H
       refine seq_run2 (stp_imp (k_gatemake_Stream_Flip (S_gatemake_Stream.mk c42 c43) 4 r50 h51) rfl ⟨.inl rfl, trivial⟩ rfl) rfl ?_
       refine seq_run0 (stp_not rfl) ?_
       refine qd rfl ?_
       refine seq_split (j := 3) rfl rfl (fun h52 => ?_) (fun h52 => ?_) rfl
       ·have h53 := un1 h52
        replace H := ift h53 H
        refine seq_g1 rfl rfl h52 (stp_loadA tyS29 rfl rfl rfl) rfl ?_
        obtain ⟨r54, h55, H⟩ := bnd H
        refine seq_g0 rfl rfl h52 (stp_call (k_gateref2_CatalogFault v2 r54 h55) ⟨.inl rfl, trivial⟩) ?_
        refine seq_g0 rfl rfl h52 (stp_eql rfl rfl) ?_
        refine seq_run0 (stp_pick_t rfl (bTT h53) rfl) ?_
        exact ⟨(decide (r54 = 0), r50.2.L, r50.2.at_), H, ⟨rfl, rfl, rfl, rfl, rfl, rfl, rfl, rfl, rfl, rfl, trivial⟩, ⟨rfl, rfl, rfl, rfl, rfl, trivial⟩⟩
       ·have h56 := un2 h52
        replace H := iff_ h56 H
        refine seq_skip rfl rfl h52 ?_
        refine seq_skip rfl rfl h52 ?_
        refine seq_skip rfl rfl h52 ?_
        refine seq_run0 (stp_pick_f rfl (bFF h56) rfl) ?_
        exact ⟨(false, r50.2.L, r50.2.at_), H, ⟨rfl, rfl, rfl, rfl, rfl, rfl, rfl, rfl, rfl, rfl, trivial⟩, ⟨rfl, rfl, rfl, rfl, rfl, trivial⟩⟩
      ·rintro ⟨v57, c58, c59⟩ H
       replace H : gatemake_Stream_Events_J7 v2 v5 l8 r21 r25 r27 c44 l45 v57 c58 c59 = some q10 := H
       unfold gatemake_Stream_Events_J7 at H
       refine awp_cond _ rfl (fun h60 => ?_) (fun h60 => ?_)
       ·replace H := ift h60 H
        refine awp_seq ?_
        refine awp_plain hN rfl ?_
        refine seq_run1 (stp_loadA tyS29 rfl rfl rfl) rfl ?_
        refine seq_run0 (stp_move (.row _ _) rfl) ?_
        refine seq_run0 (stp_fldP tyF40_1 rfl) ?_
        refine seq_run1 (stp_load1 tyS9 rfl rfl) rfl ?_
        refine seq_run0 (stp_fldP tyF40_2 rfl) ?_
        refine seq_run1 (stp_load1 tyS9 rfl rfl) rfl ?_
        obtain ⟨r61, h62, H⟩ := bnd H
        refine seq_callG (rn [(0, 2)]) [(0, _, _, some _)] [] (kv_gateref2_Stages_v1 v2 l8 c44 r25.1 r61 h62) ⟨rfl, trivial⟩ ⟨.inl (.inl rfl), .inl (.inl rfl), .inl (.inl rfl), .inl (.inl rfl), trivial⟩ ⟨⟨⟨rfl, rfl, rfl⟩, by simp [stayP]⟩, trivial⟩ rfl ?_
        refine qd rfl ?_
        refine seq_run0 (stp_ext rfl rfl) ?_
        refine seq_run0 (stp_ext rfl rfl) ?_
        refine qe rfl ?_
        refine qe rfl ?_
        refine awp_seq ?_
        refine awp_plain hN rfl ?_
        refine qd rfl ?_
        refine qd rfl ?_
        refine seq_run0 (t_len tyU66 rfl) ?_
        refine seq_run0 (stp_wrap _ rfl rfl (.inr (.inl ⟨rfl, rfl⟩))) ?_
        obtain ⟨x63, h64, H⟩ := bnd H
        refine seq_run0 (t_idxI tyE66 (fun _ => rfl) rfl rfl h64) ?_
        refine seq_run0 (stp_fldE tyF70_0 rfl) ?_
        refine seq_run0 (stp_loadE1 tyS3 rfl (map_at (at_some h64).2) rfl) ?_
        refine awp_block ?_
        refine awp_seq ?_
        refine awp_plain hN rfl ?_
        refine seq_run0 (stp_eql rfl rfl) ?_
        refine qe rfl ?_
        refine awp_cond _ rfl (fun h65 => ?_) (fun h65 => ?_)
        ·replace H := ift h65 H
         refine awp_plain hN rfl ?_
         refine seq_run0 (stp_move (.ptr _ _) rfl) ?_
         refine seq_run0 (stp_dat (u' := vlst (List.map C_int [2, 2, 3])) (stp_lit [[_], [_], [_]] tyL22 ⟨rfl, .inl ⟨_, rfl, rfl, rfl⟩, rfl, rfl, .inl ⟨_, rfl, rfl, rfl⟩, rfl, rfl, .inl ⟨_, rfl, rfl, rfl⟩, rfl, trivial⟩ rfl rfl) rfl) ?_
         obtain ⟨r66, h67, H⟩ := bnd H
         refine seq_run2 (stp_imp (k_gatemake_Stream_Pick (S_gatemake_Stream.mk c58 c59) [2, 2, 3] r66 h67) rfl ⟨.inl rfl, trivial⟩ rfl) rfl ?_
         refine seq_run0 (stp_fldP tyF40_3 rfl) ?_
         refine seq_run2 (stp_store1 tyS3 rfl rfl rfl rfl) rfl ?_
         exact ⟨(r66.2.L, r66.2.at_, r66.1), H, ⟨rfl, rfl, rfl, rfl, rfl, rfl, rfl, rfl, rfl, trivial⟩, ⟨rfl, rfl, rfl, rfl, rfl, trivial⟩⟩
        ·replace H := iff_ h65 H
         refine awp_seq ?_
         refine awp_plain hN rfl ?_
         refine seq_run0 (stp_eql rfl rfl) ?_
         refine qe rfl ?_
         refine awp_cond _ rfl (fun h68 => ?_) (fun h68 => ?_)
         ·replace H := ift h68 H
          refine awp_plain hN rfl ?_
          refine seq_run0 (stp_move (.ptr _ _) rfl) ?_
          refine seq_run0 (stp_dat (u' := vlst (List.map C_int [4, 6, 1])) (stp_lit [[_], [_], [_]] tyL22 ⟨rfl, .inl ⟨_, rfl, rfl, rfl⟩, rfl, rfl, .inl ⟨_, rfl, rfl, rfl⟩, rfl, rfl, .inl ⟨_, rfl, rfl, rfl⟩, rfl, trivial⟩ rfl rfl) rfl) ?_
          obtain ⟨r69, h70, H⟩ := bnd H
          refine seq_run2 (stp_imp (k_gatemake_Stream_Pick (S_gatemake_Stream.mk c58 c59) [4, 6, 1] r69 h70) rfl ⟨.inl rfl, trivial⟩ rfl) rfl ?_
          refine seq_run0 (stp_fldP tyF40_3 rfl) ?_
          refine seq_run2 (stp_store1 tyS3 rfl rfl rfl rfl) rfl ?_
          exact ⟨(r69.2.L, r69.2.at_, r69.1), H, ⟨rfl, rfl, rfl, rfl, rfl, rfl, rfl, rfl, rfl, trivial⟩, ⟨rfl, rfl, rfl, rfl, rfl, trivial⟩⟩
         ·replace H := iff_ h68 H
          refine awp_seq ?_
          refine awp_plain hN rfl ?_
          refine seq_run0 (stp_eql rfl rfl) ?_
          refine qe rfl ?_
          refine awp_cond _ rfl (fun h71 => ?_) (fun h71 => ?_)
          ·replace H := ift h71 H
           refine awp_plain hN rfl ?_
           refine seq_run0 (stp_move (.ptr _ _) rfl) ?_
           refine seq_run0 (stp_dat (u' := vlst (List.map C_int [5, 6])) (stp_lit [[_], [_]] tyL22 ⟨rfl, .inl ⟨_, rfl, rfl, rfl⟩, rfl, rfl, .inl ⟨_, rfl, rfl, rfl⟩, rfl, trivial⟩ rfl rfl) rfl) ?_
           obtain ⟨r72, h73, H⟩ := bnd H
           refine seq_run2 (stp_imp (k_gatemake_Stream_Pick (S_gatemake_Stream.mk c58 c59) [5, 6] r72 h73) rfl ⟨.inl rfl, trivial⟩ rfl) rfl ?_
           refine seq_run0 (stp_fldP tyF40_3 rfl) ?_
           refine seq_run2 (stp_store1 tyS3 rfl rfl rfl rfl) rfl ?_
           exact ⟨(r72.2.L, r72.2.at_, r72.1), H, ⟨rfl, rfl, rfl, rfl, rfl, rfl, rfl, rfl, rfl, trivial⟩, ⟨rfl, rfl, rfl, rfl, rfl, trivial⟩⟩
          ·replace H := iff_ h71 H
           refine awp_plain hN rfl ?_
           refine seq_run0 (stp_fldP tyF40_3 rfl) ?_
           refine seq_run2 (stp_store1 tyS3 rfl rfl rfl rfl) rfl ?_
           exact ⟨(c58, c59, 1), H, ⟨rfl, rfl, rfl, rfl, rfl, rfl, rfl, rfl, rfl, trivial⟩, ⟨rfl, rfl, rfl, rfl, rfl, trivial⟩⟩
       ·replace H := iff_ h60 H
        refine awp_skip ?_
        exact ⟨(c58, c59, r27.1), H, ⟨rfl, rfl, rfl, rfl, rfl, rfl, rfl, rfl, rfl, trivial⟩, ⟨rfl, rfl, rfl, rfl, rfl, trivial⟩⟩
     ·rintro ⟨c74, c75, c76⟩ H
      replace H : gatemake_Stream_Events_J6 v5 l8 r21 r25 c44 l45 c74 c75 c76 = some q10 := H
      unfold gatemake_Stream_Events_J6 at H
      refine awp_joinE (ι := (List Int) × Int × Bs) (fun i => [(0, .ptr 0 0), (2, .dat (vlst (List.map C_api_App v3))), (5, .ptr 1 0), (9, .row 2 l8.length), (10, .dat (vint (wr (v5 + r21.1)))), (11, .ptr 4 0), (17, .dat (vint v4)), (18, .dat (vint (k9 : Int)))]) (fun i => [(0, .box (some bl) 25 [.dat (vlst (List.map C_int i.1)), .dat (vint i.2.1)]), (1, .box none 29 [.dat (vlst (List.map C_api_Product v2.Products)), .dat (vlst (List.map C_api_Plan v2.Plans))]), (2, .row 40 5 (List.map C_api_Event l8)), (4, .box none 40 [.dat (vint (wr (v5 + r21.1))), .dat (vstr c44), .dat (vstr r25.1), .dat (vint c76), .dat (vstr i.2.2)])]) (fun i => gatemake_Stream_Events_J8 v5 l8 r21 r25 c44 c76 i.1 i.2.1 i.2.2 = some q10) (fun i => rfl) ?_ ?_
      ·skip
       refine awp_seq ?_
       refine awp_plain hN rfl ?_
       refine seq_run0 (stp_fldP tyF40_3 rfl) ?_
       refine seq_run1 (stp_load1 tyS3 rfl rfl) rfl ?_
       refine seq_run0 (stp_eql rfl rfl) ?_
       refine awp_cond _ rfl (fun h77 => ?_) (fun h77 => ?_)
       ·replace H := ift h77 H
        refine awp_seq ?_
        refine awp_seq ?_
        refine awp_plain hN rfl ?_
        refine seq_run0 (stp_move (.row _ _) rfl) ?_
        refine seq_run1 (t_lenR tyU61 rfl rfl) rfl ?_
        refine seq_run0 (stp_eql rfl rfl) ?_
        refine awp_cond _ rfl (fun h78 => ?_) (fun h78 => ?_)
        ·replace H := ift h78 H
         refine awp_exit ?_
         exact ⟨(wr (v5 + r21.1), l8, c74, c75), H, ⟨rfl, rfl, rfl, rfl, rfl, rfl, rfl, trivial⟩, ⟨rfl, rfl, rfl, trivial⟩⟩
        ·replace H := iff_ h78 H
         refine awp_skip ?_
         refine awp_plain hN rfl ?_
         refine seq_run0 (stp_move (.row _ _) rfl) ?_
         refine seq_run0 (stp_move (.ptr _ _) rfl) ?_
         refine seq_run0 (stp_move (.row _ _) rfl) ?_
         refine seq_run1 (t_lenR tyU61 rfl rfl) rfl ?_
         obtain ⟨r79, h80, H⟩ := bnd H
         refine seq_run2 (stp_imp (k_gatemake_Stream_Next (S_gatemake_Stream.mk c74 c75) (l45.length : Int) r79 h80) rfl ⟨.inl rfl, trivial⟩ rfl) rfl ?_
         obtain ⟨x81, h82, H⟩ := bnd H
         refine seq_run1 (t_idxRI tyE61 rfl rfl rfl h82) rfl ?_
         refine seq_run1 (t_loadR1 tyS9 rfl rfl (at_some h82).2 rfl) rfl ?_
         refine seq_run0 (stp_fldP tyF40_4 rfl) ?_
         refine seq_run2 (stp_store1 tyS9 rfl rfl rfl rfl) rfl ?_
         exact ⟨(r79.2.L, r79.2.at_, x81), H, ⟨rfl, rfl, rfl, rfl, rfl, rfl, rfl, rfl, trivial⟩, ⟨rfl, rfl, rfl, rfl, trivial⟩⟩
       ·replace H := iff_ h77 H
        refine awp_skip ?_
        exact ⟨(c74, c75, []), H, ⟨rfl, rfl, rfl, rfl, rfl, rfl, rfl, rfl, trivial⟩, ⟨rfl, rfl, rfl, rfl, trivial⟩⟩
      ·rintro ⟨c83, c84, c85⟩ H
       replace H : gatemake_Stream_Events_J8 v5 l8 r21 r25 c44 c76 c83 c84 c85 = some q10 := H
       unfold gatemake_Stream_Events_J8 at H
       refine awp_joinE (ι := (List Int) × Int × Int × Bs × Bs × Int × Bs) (fun i => [(0, .ptr 0 0), (2, .dat (vlst (List.map C_api_App v3))), (5, .ptr 1 0), (9, .row 2 l8.length), (10, .dat (vint (wr (v5 + r21.1)))), (11, .ptr 4 0), (17, .dat (vint v4)), (18, .dat (vint (k9 : Int)))]) (fun i => [(0, .box (some bl) 25 [.dat (vlst (List.map C_int i.1)), .dat (vint i.2.1)]), (1, .box none 29 [.dat (vlst (List.map C_api_Product v2.Products)), .dat (vlst (List.map C_api_Plan v2.Plans))]), (2, .row 40 5 (List.map C_api_Event l8)), (4, .box none 40 [.dat (vint i.2.2.1), .dat (vstr i.2.2.2.1), .dat (vstr i.2.2.2.2.1), .dat (vint i.2.2.2.2.2.1), .dat (vstr i.2.2.2.2.2.2)])]) (fun i => gatemake_Stream_Events_J9 v5 l8 r21 i.1 i.2.1 i.2.2.1 i.2.2.2.1 i.2.2.2.2.1 i.2.2.2.2.2.1 i.2.2.2.2.2.2 = some q10) (fun i => rfl) ?_ ?_
       ·skip
        refine awp_seq ?_
        refine awp_plain hN rfl ?_
        refine seq_run0 (stp_move (.ptr _ _) rfl) ?_
        obtain ⟨r86, h87, H⟩ := bnd H
        refine seq_run2 (stp_imp (k_gatemake_Stream_Flip (S_gatemake_Stream.mk c83 c84) 60 r86 h87) rfl ⟨.inl rfl, trivial⟩ rfl) rfl ?_
        refine awp_cond _ rfl (fun h88 => ?_) (fun h88 => ?_)
        ·replace H := ift h88 H
         refine awp_seq ?_
         refine awp_plain hN rfl ?_
         refine seq_run0 (stp_move (.ptr _ _) rfl) ?_
         obtain ⟨r89, h90, H⟩ := bnd H
         refine seq_run2 (stp_imp (k_gatemake_Stream_Next r86.2 5 r89 h90) rfl ⟨.inl rfl, trivial⟩ rfl) rfl ?_
         refine awp_block ?_
         refine awp_seq ?_
         refine awp_plain hN rfl ?_
         refine seq_run0 (stp_eql rfl rfl) ?_
         refine qe rfl ?_
         refine awp_cond _ rfl (fun h91 => ?_) (fun h91 => ?_)
         ·replace H := ift h91 H
          refine awp_plain hN rfl ?_
          refine seq_run0 (stp_move (.ptr _ _) rfl) ?_
          obtain ⟨r92, h93, H⟩ := bnd H
          refine seq_run2 (stp_imp (k_gatemake_Stream_AppKey r89.2 r92 h93) rfl trivial rfl) rfl ?_
          refine seq_run0 (stp_fldP tyF40_1 rfl) ?_
          refine seq_run2 (stp_store1 tyS9 rfl rfl rfl rfl) rfl ?_
          exact ⟨(r92.2.L, r92.2.at_, (wr (v5 + r21.1)), r92.1, r25.1, c76, c85), H, ⟨rfl, rfl, rfl, rfl, rfl, rfl, rfl, rfl, trivial⟩, ⟨rfl, rfl, rfl, rfl, trivial⟩⟩
         ·replace H := iff_ h91 H
          refine awp_seq ?_
          refine awp_plain hN rfl ?_
          refine seq_run0 (stp_eql rfl rfl) ?_
          refine qe rfl ?_
          refine awp_cond _ rfl (fun h94 => ?_) (fun h94 => ?_)
          ·replace H := ift h94 H
           refine awp_plain hN rfl ?_
           refine seq_run0 (stp_move (.ptr _ _) rfl) ?_
           obtain ⟨r95, h96, H⟩ := bnd H
           refine seq_run2 (stp_imp (k_gatemake_Stream_ProductKey r89.2 r95 h96) rfl trivial rfl) rfl ?_
           refine seq_run0 (stp_fldP tyF40_2 rfl) ?_
           refine seq_run2 (stp_store1 tyS9 rfl rfl rfl rfl) rfl ?_
           exact ⟨(r95.2.L, r95.2.at_, (wr (v5 + r21.1)), c44, r95.1, c76, c85), H, ⟨rfl, rfl, rfl, rfl, rfl, rfl, rfl, rfl, trivial⟩, ⟨rfl, rfl, rfl, rfl, trivial⟩⟩
          ·replace H := iff_ h94 H
           refine awp_seq ?_
           refine awp_plain hN rfl ?_
           refine seq_run0 (stp_eql rfl rfl) ?_
           refine qe rfl ?_
           refine awp_cond _ rfl (fun h97 => ?_) (fun h97 => ?_)
           ·replace H := ift h97 H
            refine awp_plain hN rfl ?_
            refine seq_run0 (stp_move (.ptr _ _) rfl) ?_
            obtain ⟨r98, h99, H⟩ := bnd H
            refine seq_run2 (stp_imp (k_gatemake_Stream_Odd r89.2 1 6 r98 h99) rfl ⟨.inl rfl, .inl rfl, trivial⟩ rfl) rfl ?_
            refine seq_run0 (stp_fldP tyF40_3 rfl) ?_
            refine seq_run2 (stp_store1 tyS3 rfl rfl rfl rfl) rfl ?_
            exact ⟨(r98.2.L, r98.2.at_, (wr (v5 + r21.1)), c44, r25.1, r98.1, c85), H, ⟨rfl, rfl, rfl, rfl, rfl, rfl, rfl, rfl, trivial⟩, ⟨rfl, rfl, rfl, rfl, trivial⟩⟩
           ·replace H := iff_ h97 H
            refine awp_seq ?_
            refine awp_plain hN rfl ?_
            refine seq_run0 (stp_eql rfl rfl) ?_
            refine qe rfl ?_
            refine awp_cond _ rfl (fun h100 => ?_) (fun h100 => ?_)
            ·replace H := ift h100 H
             refine awp_plain hN rfl ?_
             refine seq_run0 (stp_move (.ptr _ _) rfl) ?_
             refine seq_run0 (stp_dat (u' := vlst (List.map C_string [[98, 105, 103], [110, 111, 110, 101], []])) (stp_lit [[_], [_], [_]] tyL61 ⟨rfl, .inl ⟨_, rfl, rfl, rfl⟩, rfl, rfl, .inl ⟨_, rfl, rfl, rfl⟩, rfl, rfl, .inl ⟨_, rfl, rfl, rfl⟩, rfl, trivial⟩ rfl rfl) rfl) ?_
             obtain ⟨r101, h102, H⟩ := bnd H
             refine seq_run2 (stp_imp (k_gatemake_Stream_Some r89.2 ([[98, 105, 103], [110, 111, 110, 101], []]) r101 h102) rfl ⟨.inl rfl, trivial⟩ rfl) rfl ?_
             refine seq_run0 (stp_fldP tyF40_4 rfl) ?_
             refine seq_run2 (stp_store1 tyS9 rfl rfl rfl rfl) rfl ?_
             exact ⟨(r101.2.L, r101.2.at_, (wr (v5 + r21.1)), c44, r25.1, c76, r101.1), H, ⟨rfl, rfl, rfl, rfl, rfl, rfl, rfl, rfl, trivial⟩, ⟨rfl, rfl, rfl, rfl, trivial⟩⟩
            ·replace H := iff_ h100 H
             refine awp_plain hN rfl ?_
             refine seq_run0 (stp_move (.ptr _ _) rfl) ?_
             obtain ⟨r103, h104, H⟩ := bnd H
             refine seq_run2 (stp_imp (k_gatemake_Stream_Odd r89.2 0 1000 r103 h104) rfl ⟨.inl rfl, .inl rfl, trivial⟩ rfl) rfl ?_
             refine seq_run0 (stp_fldP tyF40_0 rfl) ?_
             refine seq_run2 (stp_store1 tyS3 rfl rfl rfl rfl) rfl ?_
             exact ⟨(r103.2.L, r103.2.at_, r103.1, c44, r25.1, c76, c85), H, ⟨rfl, rfl, rfl, rfl, rfl, rfl, rfl, rfl, trivial⟩, ⟨rfl, rfl, rfl, rfl, trivial⟩⟩
        ·replace H := iff_ h88 H
         refine awp_skip ?_
         exact ⟨(r86.2.L, r86.2.at_, (wr (v5 + r21.1)), c44, r25.1, c76, c85), H, ⟨rfl, rfl, rfl, rfl, rfl, rfl, rfl, rfl, trivial⟩, ⟨rfl, rfl, rfl, rfl, trivial⟩⟩
       ·rintro ⟨c105, c106, c107, c108, c109, c110, c111⟩ H
        replace H : gatemake_Stream_Events_J9 v5 l8 r21 c105 c106 c107 c108 c109 c110 c111 = some q10 := H
        unfold gatemake_Stream_Events_J9 at H
        refine awp_plain hN rfl ?_
        refine seq_run0 (stp_move (.row _ _) rfl) ?_
        refine seq_run1 (stp_loadA tyS40 rfl rfl rfl) rfl ?_
        refine seq_run0 (stp_dat (u' := vlst (List.map C_api_Event [(S_api_Event.mk c107 c108 c109 c110 c111)])) (stp_lit [_] tyL31 ⟨rfl, .inr rfl, rfl, trivial⟩ rfl rfl) rfl) ?_
        obtain ⟨h112, H⟩ := gif H
        refine seq_run2 (t_app tyL31 (fun _ => rfl) rfl rfl rfl ⟨by simp, by first | (simp; done) | simpa using h112⟩ rfl) rfl ?_
        refine seq_run0 (stp_assign (.row _ _) rfl) ?_
        exact ⟨(wr (v5 + r21.1), (l8 ++ [(S_api_Event.mk c107 c108 c109 c110 c111)]), c105, c106), H, ⟨rfl, rfl, rfl, rfl, rfl, rfl, rfl, trivial⟩, ⟨rfl, rfl, rfl, trivial⟩⟩
    ·rintro k46 x49 l45 q47 h113 h114 H hq47
     replace H : gatemake_Stream_Events_L5 r25 k46 x49 l45 = some q47 := H
     unfold gatemake_Stream_Events_L5 at H
     refine awp_seq ?_
     refine awp_plain hN rfl ?_
     refine seq_run0 (stp_lss rfl rfl) ?_
     refine awp_seq ?_
     refine awp_cond _ rfl (fun h => ?_) (fun h => (lt_f h113 h).elim)
     refine awp_skip ?_
     refine awp_joinE (ι := (List Bs)) (fun i => [(0, .ptr 0 0), (2, .dat (vlst (List.map C_api_App v3))), (5, .ptr 1 0), (9, .row 2 l8.length), (10, .dat (vint (wr (v5 + r21.1)))), (11, .ptr 4 0), (12, .row 5 i.length), (17, .dat (vint v4)), (18, .dat (vint (k9 : Int))), (55, .dat (vlst (List.map C_api_Plan v2.Plans))), (56, .dat (vint (v2.Plans.length : Int))), (57, .dat (vint (k46 : Int)))]) (fun i => [(0, .box (some bl) 25 [.dat (vlst (List.map C_int c42)), .dat (vint c43)]), (1, .box none 29 [.dat (vlst (List.map C_api_Product v2.Products)), .dat (vlst (List.map C_api_Plan v2.Plans))]), (2, .row 40 5 (List.map C_api_Event l8)), (4, .box none 40 [.dat (vint (wr (v5 + r21.1))), .dat (vstr c44), .dat (vstr r25.1), .dat (vint r27.1), .dat (vstr [])]), (5, .row 9 1 (List.map C_string i))]) (fun i => gatemake_Stream_Events_J10 i = some q47) (fun i => rfl) ?_ ?_
     ·skip
      refine awp_block ?_
      refine awp_seq ?_
      refine awp_plain hN rfl ?_
      refine seq_run0 (t_idx tyE27 (fun _ => rfl) rfl rfl h114) ?_
      refine seq_run0 (stp_loadEA tyS64 rfl (map_at h114) rfl) ?_
      refine seq_run2 (stp_alloc 6 tyZ64 rfl) rfl ?_
      refine seq_run2 (stp_storeW tyS64 rfl rfl rfl rfl) rfl ?_
      refine awp_seq ?_
      refine awp_plain hN rfl ?_
      refine seq_run0 (stp_fldP tyF64_1 rfl) ?_
      refine seq_run1 (stp_load1 tyS9 rfl rfl) rfl ?_
      refine seq_run0 (stp_fldP tyF40_2 rfl) ?_
      refine seq_run1 (stp_load1 tyS9 rfl rfl) rfl ?_
      refine seq_run0 (stp_seql rfl rfl) ?_
      refine awp_cond _ rfl (fun h115 => ?_) (fun h115 => ?_)
      ·replace H := ift h115 H
       refine awp_plain hN rfl ?_
       refine seq_run0 (stp_move (.row _ _) rfl) ?_
       refine seq_run0 (stp_fldP tyF64_0 rfl) ?_
       refine seq_run1 (stp_load1 tyS9 rfl rfl) rfl ?_
       refine seq_run0 (stp_dat (u' := vlst (List.map C_string [x49.Key])) (stp_lit [[_]] tyL61 ⟨rfl, .inl ⟨_, rfl, rfl, rfl⟩, rfl, trivial⟩ rfl rfl) rfl) ?_
       obtain ⟨h116, H⟩ := gif H
       refine seq_run2 (t_app tyL61 (fun _ => rfl) rfl rfl rfl ⟨by simp, by first | (simp; done) | simpa using h116⟩ rfl) rfl ?_
       refine seq_run0 (stp_assign (.row _ _) rfl) ?_
       exact ⟨(l45 ++ [x49.Key]), H, ⟨rfl, rfl, rfl, rfl, rfl, rfl, rfl, rfl, rfl, rfl, rfl, rfl, trivial⟩, ⟨rfl, rfl, rfl, rfl, rfl, trivial⟩⟩
      ·replace H := iff_ h115 H
       refine awp_skip ?_
       exact ⟨l45, H, ⟨rfl, rfl, rfl, rfl, rfl, rfl, rfl, rfl, rfl, rfl, rfl, rfl, trivial⟩, ⟨rfl, rfl, rfl, rfl, rfl, trivial⟩⟩
     ·rintro v117 H
      replace H : gatemake_Stream_Events_J10 v117 = some q47 := H
      unfold gatemake_Stream_Events_J10 at H
      refine awp_plain hN rfl ?_
      refine seq_run0 (stp_add rfl rfl (by omega)) ?_
      refine qd rfl ?_
      exact ⟨_, backl H, ⟨rfl, rfl, rfl, rfl, rfl, rfl, rfl, rfl, rfl, rfl, rfl, rfl, trivial⟩, ⟨rfl, rfl, rfl, rfl, rfl, trivial⟩⟩
  ·rintro ⟨v118, v119, c120, c121⟩ H
   replace H : gatemake_Stream_Events_J2 v118 v119 c120 c121 = some q10 := H
   unfold gatemake_Stream_Events_J2 at H
   refine awp_plain hN rfl ?_
   refine seq_run0 (stp_add rfl rfl (by omega)) ?_
   refine qd rfl ?_
   exact ⟨_, backl H, ⟨rfl, rfl, rfl, rfl, rfl, rfl, rfl, trivial⟩, ⟨rfl, rfl, rfl, trivial⟩⟩
theorem k_gateref2_AppsFault (l1 : (List S_api_App)) (r : (Int)) (H : m_gateref2_AppsFault l1 = some r) : Fn Tryz.prog 13 [vlst (List.map C_api_App l1)] (resOf [vint r]) := by
 refine ⟨by kernel_rfl, pure_of (us := [vint r]) Tryz.func13 rfl rfl rfl rfl fun X hN => ?_⟩
 unfold m_gateref2_AppsFault at H
 refine awp_seq ?_
 refine awp_plain hN rfl ?_
 refine qe rfl ?_
 refine awp_seq ?_
 refine awp_seq ?_
 refine awp_plain hN rfl ?_
 refine qd rfl ?_
 refine seq_run0 (t_len tyU30 rfl) ?_
 refine seq_run0 (stp_gtr rfl rfl) ?_
 refine awp_cond _ rfl (fun h2 => ?_) (fun h2 => ?_)
 ·replace H := ift h2 H
  refine awp_seq ?_
  refine awp_plain hN rfl ?_
  refine qe rfl ?_
  refine awp_ret ?_
  cases H
  exact ⟨trivial, .inl rfl, trivial⟩
 ·replace H := iff_ h2 H
  refine awp_skip ?_
  refine awp_seq ?_
  refine awp_plain hN rfl ?_
  refine qe rfl ?_
  refine awp_seq ?_
  refine awp_seq ?_
  refine awp_plain hN rfl ?_
  refine qd rfl ?_
  refine seq_run0 (t_len tyU30 rfl) ?_
  refine qd rfl ?_
  refine awp_block ?_
  obtain ⟨h6, H⟩ := gif H
  refine awp_forL (fun (k4 : Nat) (s : Bs) => [(3, .dat (vstr s)), (9, .dat (vlst (List.map C_api_App l1))), (10, .dat (vint (l1.length : Int))), (11, .dat (vint (k4 : Int)))]) (fun (k4 : Nat) (s : Bs) => []) [] H ⟨rfl, rfl, rfl, rfl, trivial⟩ trivial (fun _ _ => rfl) ?_ ?_
  ·rintro last3 H
   replace H : gateref2_AppsFault_E1 last3 = some r := H
   unfold gateref2_AppsFault_E1 at H
   refine awp_seq ?_
   refine awp_plain hN rfl ?_
   refine seq_run0 (stp_lss rfl rfl) ?_
   refine awp_seq ?_
   refine awp_cond _ rfl (fun h => (lt_t h).elim) (fun h => ?_)
   refine awp_exit ?_
   refine awp_seq ?_
   refine awp_plain hN rfl ?_
   refine qe rfl ?_
   refine awp_ret ?_
   cases H
   exact ⟨trivial, .inl rfl, trivial⟩
  ·rintro k4 x7 last3 q5 h8 h9 H hq5
   replace H : gateref2_AppsFault_L1 k4 x7 last3 = some q5 := H
   unfold gateref2_AppsFault_L1 at H
   refine awp_seq ?_
   refine awp_plain hN rfl ?_
   refine seq_run0 (stp_lss rfl rfl) ?_
   refine awp_seq ?_
   refine awp_cond _ rfl (fun h => ?_) (fun h => (lt_f h8 h).elim)
   refine awp_skip ?_
   refine awp_seq ?_
   refine awp_block ?_
   refine awp_seq ?_
   refine awp_plain hN rfl ?_
   refine seq_run0 (t_idx tyE30 (fun _ => rfl) rfl rfl h9) ?_
   refine seq_run0 (stp_loadEA tyS60 rfl (map_at h9) rfl) ?_
   refine seq_run2 (stp_alloc 1 tyZ60 rfl) rfl ?_
   refine seq_run2 (stp_storeW tyS60 rfl rfl rfl rfl) rfl ?_
   refine awp_seq ?_
   refine awp_block ?_
   refine awp_joinE (ι := Bool) (fun i => [(3, .dat (vstr last3)), (5, .ptr 1 0), (9, .dat (vlst (List.map C_api_App l1))), (10, .dat (vint (l1.length : Int))), (11, .dat (vint (k4 : Int))), (15, .dat (vbool i))]) (fun i => [(1, .box none 60 [.dat (vstr x7.Key), .dat (vstr x7.Owner)])]) (fun i => gateref2_AppsFault_J2 last3 x7 i = some q5) (fun i => rfl) ?_ ?_
   ·skip
    refine awp_plain hN rfl ?_
    refine seq_run0 (stp_fldP tyF60_0 rfl) ?_
    refine seq_run1 (stp_load1 tyS9 rfl rfl) rfl ?_
    obtain ⟨r10, h11, H⟩ := bnd H
    refine seq_run0 (stp_call (k_gateref2_Key x7.Key r10 h11) ⟨.inl rfl, trivial⟩) ?_
    refine seq_run0 (stp_not rfl) ?_
    refine qd rfl ?_
    refine seq_split (j := 4) rfl rfl (fun h12 => ?_) (fun h12 => ?_) rfl
    ·have h13 := un3 h12
     replace H := iff_ h13 H
     refine seq_g0 rfl rfl h12 (stp_fldP tyF60_1 rfl) ?_
     refine seq_g1 rfl rfl h12 (stp_load1 tyS9 rfl rfl) rfl ?_
     obtain ⟨r14, h15, H⟩ := bnd H
     refine seq_g0 rfl rfl h12 (stp_call (k_gateref2_Key x7.Owner r14 h15) ⟨.inl rfl, trivial⟩) ?_
     refine seq_g0 rfl rfl h12 (stp_not rfl) ?_
     refine seq_run0 (stp_pick_f rfl (bFF h13) rfl) ?_
     refine qe rfl ?_
     exact ⟨!r14, H, ⟨rfl, rfl, rfl, rfl, rfl, rfl, trivial⟩, ⟨rfl, trivial⟩⟩
    ·have h16 := un4 h12
     replace H := ift h16 H
     refine seq_skip rfl rfl h12 ?_
     refine seq_skip rfl rfl h12 ?_
     refine seq_skip rfl rfl h12 ?_
     refine seq_skip rfl rfl h12 ?_
     refine seq_run0 (stp_pick_t rfl (bTT h16) rfl) ?_
     refine qe rfl ?_
     exact ⟨true, H, ⟨rfl, rfl, rfl, rfl, rfl, rfl, trivial⟩, ⟨rfl, trivial⟩⟩
   ·rintro v17 H
    replace H : gateref2_AppsFault_J2 last3 x7 v17 = some q5 := H
    unfold gateref2_AppsFault_J2 at H
    refine awp_cond _ rfl (fun h18 => ?_) (fun h18 => ?_)
    ·replace H := ift h18 H
     refine awp_seq ?_
     refine awp_plain hN rfl ?_
     refine qe rfl ?_
     refine awp_ret ?_
     replace H := retl H hq5
     cases H
     exact ⟨trivial, .inl rfl, trivial⟩
    ·replace H := iff_ h18 H
     refine awp_seq ?_
     refine awp_plain hN rfl ?_
     refine seq_run0 (stp_fldP tyF60_0 rfl) ?_
     refine seq_run1 (stp_load1 tyS9 rfl rfl) rfl ?_
     refine qd rfl ?_
     refine seq_run0 (stp_sleq rfl rfl) ?_
     refine qe rfl ?_
     refine awp_cond _ rfl (fun h19 => ?_) (fun h19 => ?_)
     ·replace H := ift h19 H
      refine awp_seq ?_
      refine awp_plain hN rfl ?_
      refine qe rfl ?_
      refine awp_ret ?_
      replace H := retl H hq5
      cases H
      exact ⟨trivial, .inl rfl, trivial⟩
     ·replace H := iff_ h19 H
      refine awp_skip ?_
      refine awp_plain hN rfl ?_
      refine seq_run0 (stp_fldP tyF60_0 rfl) ?_
      refine seq_run1 (stp_load1 tyS9 rfl rfl) rfl ?_
      refine qe rfl ?_
      refine awp_plain hN rfl ?_
      refine seq_run0 (stp_add rfl rfl (by omega)) ?_
      refine qd rfl ?_
      exact ⟨_, backl H, ⟨rfl, rfl, rfl, rfl, trivial⟩, trivial⟩
theorem k_gateref2_both (c1 : S_api_Catalog) (apps2 : (List S_api_App)) (r : (Int)) (H : m_gateref2_both c1 apps2 = some r) : Fn Tryz.prog 44 [vagg (C_api_Catalog c1), vlst (List.map C_api_App apps2)] (resOf [vint r]) := by
 refine ⟨by kernel_rfl, pure_of (us := [vint r]) Tryz.func44 rfl rfl rfl rfl fun X hN => ?_⟩
 unfold m_gateref2_both at H
 refine awp_seq ?_
 refine awp_plain hN rfl ?_
 refine seq_run2 (stp_boxA 1 rfl) rfl ?_
 refine qe rfl ?_
 refine awp_seq ?_
 refine awp_seq ?_
 refine awp_plain hN rfl ?_
 refine seq_run1 (stp_loadA tyS29 rfl rfl rfl) rfl ?_
 obtain ⟨r3, h4, H⟩ := bnd H
 refine seq_run0 (stp_call (k_gateref2_CatalogFault c1 r3 h4) ⟨.inl rfl, trivial⟩) ?_
 refine qe rfl ?_
 refine awp_seq ?_
 refine awp_plain hN rfl ?_
 refine qd rfl ?_
 refine seq_run0 (stp_neq rfl rfl) ?_
 refine awp_cond _ rfl (fun h5 => ?_) (fun h5 => ?_)
 ·replace H := ift h5 H
  refine awp_seq ?_
  refine awp_plain hN rfl ?_
  refine qd rfl ?_
  refine qe rfl ?_
  refine awp_ret ?_
  cases H
  exact ⟨trivial, .inl rfl, trivial⟩
 ·replace H := iff_ h5 H
  refine awp_skip ?_
  refine awp_seq ?_
  refine awp_plain hN rfl ?_
  refine qd rfl ?_
  obtain ⟨r6, h7, H⟩ := bnd H
  refine seq_run0 (stp_call (k_gateref2_AppsFault apps2 r6 h7) ⟨.inl rfl, trivial⟩) ?_
  refine qe rfl ?_
  refine awp_ret ?_
  cases H
  exact ⟨trivial, .inl rfl, trivial⟩
theorem k_gateref2_Moment (v1 : Int) (r : (Bool)) (H : m_gateref2_Moment v1 = some r) : Fn Tryz.prog 46 [vint v1] (resOf [vbool r]) := by
 refine ⟨by kernel_rfl, pure_of (us := [vbool r]) Tryz.func46 rfl rfl rfl rfl fun X hN => ?_⟩
 unfold m_gateref2_Moment at H
 refine awp_seq ?_
 refine awp_plain hN rfl ?_
 refine qe rfl ?_
 refine awp_seq ?_
 refine awp_plain hN rfl ?_
 refine qd rfl ?_
 obtain ⟨r2, h3, H⟩ := bnd H
 refine seq_run0 (stp_call (k_gateref2_in v1 0 345686399999 r2 h3) ⟨.inl rfl, .inl rfl, .inl rfl, trivial⟩) ?_
 refine qe rfl ?_
 refine awp_ret ?_
 cases H
 exact ⟨trivial, .inl rfl, trivial⟩
theorem k_slices_IndexFunc_L_api_App_api_App_ (s1 : (List S_api_App)) (p1 : S_api_App → Option (Bool)) (fv1 : Nat) (us1 : List V) (hp1 : ∀ a0 r, p1 a0 = some r → Fn Tryz.prog fv1 ([vagg (C_api_App a0)] ++ us1) (resOf [vbool r])) (r : (Int)) (H : m_slices_IndexFunc_L_api_App_api_App_ s1 p1 = some r) : Fn Tryz.prog 78 [vlst (List.map C_api_App s1), vfn fv1 us1] (resOf [vint r]) := by
 refine ⟨by kernel_rfl, pure_of (us := [vint r]) Tryz.func78 rfl rfl rfl rfl fun X hN => ?_⟩
 unfold m_slices_IndexFunc_L_api_App_api_App_ at H
 refine awp_seq ?_
 refine awp_plain hN rfl ?_
 refine qe rfl ?_
 refine awp_seq ?_
 refine awp_seq ?_
 refine awp_plain hN rfl ?_
 refine qd rfl ?_
 refine seq_run0 (t_len tyU30 rfl) ?_
 refine qd rfl ?_
 refine awp_block ?_
 obtain ⟨h4, H⟩ := gif H
 refine awp_forL (fun (k2 : Nat) (s : Unit) => [(0, .dat (vlst (List.map C_api_App s1))), (1, .dat (vfn fv1 us1)), (7, .dat (vint (s1.length : Int))), (8, .dat (vint (k2 : Int)))]) (fun (k2 : Nat) (s : Unit) => []) () H ⟨rfl, rfl, rfl, rfl, trivial⟩ trivial (fun _ _ => rfl) ?_ ?_
 ·rintro ⟨⟩ H
  replace H : slices_IndexFunc_L_api_App_api_App__E1 = some r := H
  unfold slices_IndexFunc_L_api_App_api_App__E1 at H
  refine awp_seq ?_
  refine awp_plain hN rfl ?_
  refine seq_run0 (stp_lss rfl rfl) ?_
  refine awp_seq ?_
  refine awp_cond _ rfl (fun h => (lt_t h).elim) (fun h => ?_)
  refine awp_exit ?_
  refine awp_seq ?_
  refine awp_plain hN rfl ?_
  refine qe rfl ?_
  refine awp_ret ?_
  cases H
  exact ⟨trivial, .inl rfl, trivial⟩
 ·rintro k2 x5 ⟨⟩ q3 h6 h7 H hq3
  replace H : slices_IndexFunc_L_api_App_api_App__L1 p1 k2 x5 = some q3 := H
  unfold slices_IndexFunc_L_api_App_api_App__L1 at H
  refine awp_seq ?_
  refine awp_plain hN rfl ?_
  refine seq_run0 (stp_lss rfl rfl) ?_
  refine awp_seq ?_
  refine awp_cond _ rfl (fun h => ?_) (fun h => (lt_f h6 h).elim)
  refine awp_skip ?_
  refine awp_seq ?_
  refine awp_block ?_
  refine awp_seq ?_
  refine awp_plain hN rfl ?_
  refine qd rfl ?_
  refine qe rfl ?_
  refine awp_seq ?_
  refine awp_plain hN rfl ?_
  refine qd rfl ?_
  refine qd rfl ?_
  refine qd rfl ?_
  refine seq_run0 (t_idx tyE30 (fun _ => rfl) rfl rfl h7) ?_
  refine seq_run0 (stp_loadEA tyS60 rfl (map_at h7) rfl) ?_
  obtain ⟨r8, h9, H⟩ := bnd H
  refine seq_run0 (stp_callv (hp1 x5 r8 h9) rfl ⟨.inl rfl, trivial⟩) ?_
  refine awp_cond _ rfl (fun h10 => ?_) (fun h10 => ?_)
  ·replace H := ift h10 H
   refine awp_seq ?_
   refine awp_plain hN rfl ?_
   refine qd rfl ?_
   refine qe rfl ?_
   refine awp_ret ?_
   replace H := retl H hq3
   cases H
   exact ⟨trivial, .inl rfl, trivial⟩
  ·replace H := iff_ h10 H
   refine awp_skip ?_
   refine awp_plain hN rfl ?_
   refine seq_run0 (stp_add rfl rfl (by omega)) ?_
   refine qd rfl ?_
   exact ⟨_, backl H, ⟨rfl, rfl, rfl, rfl, trivial⟩, trivial⟩
theorem k_gateref2_AppAt_1 (a1 : S_api_App) (c2 : Bs) (r : (Bool)) (H : m_gateref2_AppAt_1 a1 c2 = some r) : Fn Tryz.prog 79 [vagg (C_api_App a1), vcell [[vstr c2]] 0 0] (resOf [vbool r]) := by
 refine ⟨by kernel_rfl, pure_of (us := [vbool r]) Tryz.func79 rfl rfl rfl rfl fun X hN => ?_⟩
 unfold m_gateref2_AppAt_1 at H
 refine awp_seq ?_
 refine awp_plain hN rfl ?_
 refine seq_run2 (stp_boxA 1 rfl) rfl ?_
 refine qe rfl ?_
 refine awp_seq ?_
 refine awp_plain hN rfl ?_
 refine seq_run0 (stp_fldP tyF60_0 rfl) ?_
 refine seq_run1 (stp_load1 tyS9 rfl rfl) rfl ?_
 refine seq_run0 (stp_loadE1 tyS9 rfl rfl rfl) ?_
 refine seq_run0 (stp_seql rfl rfl) ?_
 refine qe rfl ?_
 refine awp_ret ?_
 cases H
 exact ⟨trivial, .inl rfl, trivial⟩
theorem k_gateref2_AppAt (l1 : (List S_api_App)) (key2 : Bs) (r : (Int)) (H : m_gateref2_AppAt l1 key2 = some r) : Fn Tryz.prog 47 [vlst (List.map C_api_App l1), vstr key2] (resOf [vint r]) := by
 refine ⟨by kernel_rfl, pure_of (us := [vint r]) Tryz.func47 rfl rfl rfl rfl fun X hN => ?_⟩
 unfold m_gateref2_AppAt at H
 refine awp_seq ?_
 refine awp_plain hN rfl ?_
 refine seq_run2 (stp_box1 1 rfl rfl) rfl ?_
 refine qe rfl ?_
 refine awp_seq ?_
 refine awp_frzB 1 [vstr key2] rfl rfl ?_
 refine awp_plain hN rfl ?_
 refine qd rfl ?_
 refine seq_run0 (stp_mkfn (us := [_]) ⟨rfl, trivial⟩) ?_
 obtain ⟨r3, h4, H⟩ := bnd H
 refine seq_run0 (stp_call (k_slices_IndexFunc_L_api_App_api_App_ l1 (fun (a0 : S_api_App) => m_gateref2_AppAt_1 a0 key2) 79 [vcell [[vstr key2]] 0 0] (fun a0 r h => k_gateref2_AppAt_1 a0 key2 r h) r3 h4) ⟨.inl rfl, .inl rfl, trivial⟩) ?_
 refine qe rfl ?_
 refine awp_ret ?_
 cases H
 exact ⟨trivial, .inl rfl, trivial⟩
end Go.Proofs.YtaolapgdgdmapaaGreatDoor
