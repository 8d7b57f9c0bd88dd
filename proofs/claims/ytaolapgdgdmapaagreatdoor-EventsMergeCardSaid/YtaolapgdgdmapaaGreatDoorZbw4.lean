/- Walks along the models. Printed by a program. -/
import Derived.Test.YtaolapgdgdmapaaGreatDoorZbw3
namespace Go.Proofs.YtaolapgdgdmapaaGreatDoor
open Go.RowKit
set_option linter.unusedVariables false
set_option maxRecDepth 20000
set_option maxHeartbeats 2000000
theorem k_gateref2_EventsFault (v1 : S_api_Catalog) (v2 : (List S_api_App)) (v3 : (List S_api_Event)) (r : (Int)) (H : m_gateref2_EventsFault v1 v2 v3 = some r) : Fn Tryz.prog 16 [vagg (C_api_Catalog v1), vlst (List.map C_api_App v2), vlst (List.map C_api_Event v3)] (resOf [vint r]) := by
 refine ⟨by kernel_rfl, pure_of (us := [vint r]) Tryz.func16 rfl rfl rfl rfl fun X hN => ?_⟩
 unfold m_gateref2_EventsFault at H
 refine awp_seq ?_
 refine awp_plain hN rfl ?_
 refine seq_run2 (stp_boxA 1 rfl) rfl ?_
 refine qe rfl ?_
 refine awp_seq ?_
 refine awp_seq ?_
 refine awp_plain hN rfl ?_
 refine seq_run1 (stp_loadA tyS29 rfl rfl rfl) rfl ?_
 refine qd rfl ?_
 obtain ⟨r4, h5, H⟩ := bnd H
 refine seq_run0 (stp_call (k_gateref2_both v1 v2 r4 h5) ⟨.inl rfl, .inl rfl, trivial⟩) ?_
 refine qe rfl ?_
 refine awp_seq ?_
 refine awp_plain hN rfl ?_
 refine qd rfl ?_
 refine seq_run0 (stp_neq rfl rfl) ?_
 refine awp_cond _ rfl (fun h6 => ?_) (fun h6 => ?_)
 ·replace H := ift h6 H
  refine awp_seq ?_
  refine awp_plain hN rfl ?_
  refine qd rfl ?_
  refine qe rfl ?_
  refine awp_ret ?_
  cases H
  exact ⟨trivial, .inl rfl, trivial⟩
 ·replace H := iff_ h6 H
  refine awp_skip ?_
  refine awp_seq ?_
  refine awp_seq ?_
  refine awp_plain hN rfl ?_
  refine qd rfl ?_
  refine seq_run0 (t_len tyU31 rfl) ?_
  refine seq_run0 (stp_gtr rfl rfl) ?_
  refine awp_cond _ rfl (fun h7 => ?_) (fun h7 => ?_)
  ·replace H := ift h7 H
   refine awp_seq ?_
   refine awp_plain hN rfl ?_
   refine qe rfl ?_
   refine awp_ret ?_
   cases H
   exact ⟨trivial, .inl rfl, trivial⟩
  ·replace H := iff_ h7 H
   refine awp_skip ?_
   refine awp_seq ?_
   refine awp_seq ?_
   refine awp_plain hN rfl ?_
   refine qd rfl ?_
   refine seq_run0 (t_len tyU31 rfl) ?_
   refine qd rfl ?_
   refine awp_block ?_
   obtain ⟨h10, H⟩ := gif H
   refine awp_forL (fun (k8 : Nat) (s : Unit) => [(1, .dat (vlst (List.map C_api_App v2))), (2, .dat (vlst (List.map C_api_Event v3))), (3, .ptr 1 0), (21, .dat (vlst (List.map C_api_Event v3))), (22, .dat (vint (v3.length : Int))), (23, .dat (vint (k8 : Int)))]) (fun (k8 : Nat) (s : Unit) => [(1, .box none 29 [.dat (vlst (List.map C_api_Product v1.Products)), .dat (vlst (List.map C_api_Plan v1.Plans))])]) () H ⟨rfl, rfl, rfl, rfl, rfl, rfl, trivial⟩ ⟨rfl, trivial⟩ (fun _ _ => rfl) ?_ ?_
   ·rintro ⟨⟩ H
    replace H : gateref2_EventsFault_E1 = some r := H
    unfold gateref2_EventsFault_E1 at H
    refine awp_seq ?_
    refine awp_plain hN rfl ?_
    refine seq_run0 (stp_lss rfl rfl) ?_
    refine awp_seq ?_
    refine awp_cond _ rfl (fun h => (lt_t h).elim) (fun h => ?_)
    refine awp_exit ?_
    refine awp_seq ?_
    refine awp_plain hN rfl ?_
    refine qe rfl ?_
    refine awp_ret ?_
    cases H
    exact ⟨trivial, .inl rfl, trivial⟩
   ·rintro k8 x11 ⟨⟩ q9 h12 h13 H hq9
    replace H : gateref2_EventsFault_L1 v1 v2 v3 k8 x11 = some q9 := H
    unfold gateref2_EventsFault_L1 at H
    refine awp_seq ?_
    refine awp_plain hN rfl ?_
    refine seq_run0 (stp_lss rfl rfl) ?_
    refine awp_seq ?_
    refine awp_cond _ rfl (fun h => ?_) (fun h => (lt_f h12 h).elim)
    refine awp_skip ?_
    refine awp_seq ?_
    refine awp_block ?_
    refine awp_seq ?_
    refine awp_plain hN rfl ?_
    refine qd rfl ?_
    refine seq_run0 (t_idx tyE31 (fun _ => rfl) rfl rfl h13) ?_
    refine seq_run0 (stp_loadEA tyS40 rfl (map_at h13) rfl) ?_
    refine seq_run2 (stp_alloc 2 tyZ40 rfl) rfl ?_
    refine qe rfl ?_
    refine seq_run2 (stp_storeW tyS40 rfl rfl rfl rfl) rfl ?_
    refine awp_seq ?_
    refine awp_plain hN rfl ?_
    refine seq_run1 (stp_loadA tyS29 rfl rfl rfl) rfl ?_
    refine seq_run0 (stp_fldP tyF40_4 rfl) ?_
    refine seq_run1 (stp_load1 tyS9 rfl rfl) rfl ?_
    obtain ⟨r14, h15, H⟩ := bnd H
    refine seq_run0 (stp_call (k_gateref2_PlanAt v1 x11.Plan r14 h15) ⟨.inl rfl, .inl rfl, trivial⟩) ?_
    refine qe rfl ?_
    refine awp_seq ?_
    refine awp_plain hN rfl ?_
    refine seq_run0 (stp_fldP tyF40_3 rfl) ?_
    refine seq_run1 (stp_load1 tyS3 rfl rfl) rfl ?_
    refine seq_run0 (stp_eql rfl rfl) ?_
    refine qe rfl ?_
    refine awp_block ?_
    refine awp_seq ?_
    refine awp_plain hN rfl ?_
    refine seq_run0 (stp_fldP tyF40_0 rfl) ?_
    refine seq_run1 (stp_load1 tyS3 rfl rfl) rfl ?_
    obtain ⟨r16, h17, H⟩ := bnd H
    refine seq_run0 (stp_call (k_gateref2_Moment x11.At r16 h17) ⟨.inl rfl, trivial⟩) ?_
    refine seq_run0 (stp_not rfl) ?_
    refine qe rfl ?_
    refine awp_cond _ rfl (fun h18 => ?_) (fun h18 => ?_)
    ·replace H := ift h18 H
     refine awp_seq ?_
     refine awp_plain hN rfl ?_
     refine qe rfl ?_
     refine awp_ret ?_
     replace H := retl H hq9
     cases H
     exact ⟨trivial, .inl rfl, trivial⟩
    ·replace H := iff_ h18 H
     refine awp_joinE (ι := Bool) (fun i => [(1, .dat (vlst (List.map C_api_App v2))), (2, .dat (vlst (List.map C_api_Event v3))), (3, .ptr 1 0), (8, .dat (vint (k8 : Int))), (9, .ptr 2 0), (10, .dat (vint r14)), (11, .dat (vbool (decide (x11.Kind = 1)))), (21, .dat (vlst (List.map C_api_Event v3))), (22, .dat (vint (v3.length : Int))), (23, .dat (vint (k8 : Int))), (40, .dat (vbool i))]) (fun i => [(1, .box none 29 [.dat (vlst (List.map C_api_Product v1.Products)), .dat (vlst (List.map C_api_Plan v1.Plans))]), (2, .box none 40 [.dat (vint x11.At), .dat (vstr x11.App), .dat (vstr x11.Product), .dat (vint x11.Kind), .dat (vstr x11.Plan)])]) (fun i => gateref2_EventsFault_J2 v1 v3 k8 x11 r14 i = some q9) (fun i => rfl) ?_ ?_
     ·skip
      refine awp_plain hN rfl ?_
      refine qd rfl ?_
      refine seq_run0 (stp_fldP tyF40_1 rfl) ?_
      refine seq_run1 (stp_load1 tyS9 rfl rfl) rfl ?_
      obtain ⟨r19, h20, H⟩ := bnd H
      refine seq_run0 (stp_call (k_gateref2_AppAt v2 x11.App r19 h20) ⟨.inl rfl, .inl rfl, trivial⟩) ?_
      refine seq_run0 (stp_lss rfl rfl) ?_
      refine qd rfl ?_
      refine seq_split (j := 5) rfl rfl (fun h21 => ?_) (fun h21 => ?_) rfl
      ·have h22 := un3 h21
       replace H := iff_ h22 H
       refine seq_g1 rfl rfl h21 (stp_loadA tyS29 rfl rfl rfl) rfl ?_
       refine seq_g0 rfl rfl h21 (stp_fldP tyF40_2 rfl) ?_
       refine seq_g1 rfl rfl h21 (stp_load1 tyS9 rfl rfl) rfl ?_
       obtain ⟨r23, h24, H⟩ := bnd H
       refine seq_g0 rfl rfl h21 (stp_call (k_gateref2_ProductAt v1 x11.Product r23 h24) ⟨.inl rfl, .inl rfl, trivial⟩) ?_
       refine seq_g0 rfl rfl h21 (stp_lss rfl rfl) ?_
       refine seq_run0 (stp_pick_f rfl (bFF h22) rfl) ?_
       refine qe rfl ?_
       exact ⟨decide (r23 < 0), H, ⟨rfl, rfl, rfl, rfl, rfl, rfl, rfl, rfl, rfl, rfl, rfl, trivial⟩, ⟨rfl, rfl, trivial⟩⟩
      ·have h25 := un4 h21
       replace H := ift h25 H
       refine seq_skip rfl rfl h21 ?_
       refine seq_skip rfl rfl h21 ?_
       refine seq_skip rfl rfl h21 ?_
       refine seq_skip rfl rfl h21 ?_
       refine seq_skip rfl rfl h21 ?_
       refine seq_run0 (stp_pick_t rfl (bTT h25) rfl) ?_
       refine qe rfl ?_
       exact ⟨true, H, ⟨rfl, rfl, rfl, rfl, rfl, rfl, rfl, rfl, rfl, rfl, rfl, trivial⟩, ⟨rfl, rfl, trivial⟩⟩
     ·rintro v26 H
      replace H : gateref2_EventsFault_J2 v1 v3 k8 x11 r14 v26 = some q9 := H
      unfold gateref2_EventsFault_J2 at H
      refine awp_cond _ rfl (fun h27 => ?_) (fun h27 => ?_)
      ·replace H := ift h27 H
       refine awp_seq ?_
       refine awp_plain hN rfl ?_
       refine qe rfl ?_
       refine awp_ret ?_
       replace H := retl H hq9
       cases H
       exact ⟨trivial, .inl rfl, trivial⟩
      ·replace H := iff_ h27 H
       refine awp_seq ?_
       refine awp_plain hN rfl ?_
       refine seq_run0 (stp_fldP tyF40_3 rfl) ?_
       refine seq_run1 (stp_load1 tyS3 rfl rfl) rfl ?_
       obtain ⟨r28, h29, H⟩ := bnd H
       refine seq_run0 (stp_call (k_gateref2_in x11.Kind 1 6 r28 h29) ⟨.inl rfl, .inl rfl, .inl rfl, trivial⟩) ?_
       refine seq_run0 (stp_not rfl) ?_
       refine qe rfl ?_
       refine awp_cond _ rfl (fun h30 => ?_) (fun h30 => ?_)
       ·replace H := ift h30 H
        refine awp_seq ?_
        refine awp_plain hN rfl ?_
        refine qe rfl ?_
        refine awp_ret ?_
        replace H := retl H hq9
        cases H
        exact ⟨trivial, .inl rfl, trivial⟩
       ·replace H := iff_ h30 H
        refine awp_seq ?_
        refine awp_plain hN rfl ?_
        refine qd rfl ?_
        refine seq_run0 (stp_not rfl) ?_
        refine qd rfl ?_
        refine seq_aT rfl rfl (fun hc => stp_fldP tyF40_4 rfl) ?_
        refine seq_arT rfl rfl (fun hc => stp_load1 tyS9 (cnd (c := (!(decide (x11.Kind = 1)))) hc) rfl) rfl anti_p ?_
        refine seq_aT rfl rfl (fun hc => stp_sneq (cnd (c := (!(decide (x11.Kind = 1)))) hc) rfl) ?_
        refine seq_run0 (stp_pick_and rfl (fun hb => (cnd (c := (!(decide (x11.Kind = 1)))) hb)) rfl) ?_
        refine qe rfl ?_
        refine awp_cond _ rfl (fun h31 => ?_) (fun h31 => ?_)
        ·replace H := ift h31 H
         refine awp_seq ?_
         refine awp_plain hN rfl ?_
         refine qe rfl ?_
         refine awp_ret ?_
         replace H := retl H hq9
         cases H
         exact ⟨trivial, .inl rfl, trivial⟩
        ·replace H := iff_ h31 H
         refine awp_seq ?_
         refine awp_plain hN rfl ?_
         refine qd rfl ?_
         refine qd rfl ?_
         refine seq_aT rfl rfl (fun hc => stp_move (.dat _) rfl) ?_
         refine seq_aT rfl rfl (fun hc => stp_lss (cnd (c := (decide (x11.Kind = 1))) hc) rfl) ?_
         refine seq_run0 (stp_pick_and rfl (fun hb => (cnd (c := (decide (x11.Kind = 1))) hb)) rfl) ?_
         refine qe rfl ?_
         refine awp_cond _ rfl (fun h32 => ?_) (fun h32 => ?_)
         ·replace H := ift h32 H
          refine awp_seq ?_
          refine awp_plain hN rfl ?_
          refine qe rfl ?_
          refine awp_ret ?_
          replace H := retl H hq9
          cases H
          exact ⟨trivial, .inl rfl, trivial⟩
         ·replace H := iff_ h32 H
          refine awp_joinE (ι := Bool) (fun i => [(1, .dat (vlst (List.map C_api_App v2))), (2, .dat (vlst (List.map C_api_Event v3))), (3, .ptr 1 0), (8, .dat (vint (k8 : Int))), (9, .ptr 2 0), (21, .dat (vlst (List.map C_api_Event v3))), (22, .dat (vint (v3.length : Int))), (23, .dat (vint (k8 : Int))), (72, .dat (vbool i))]) (fun i => [(1, .box none 29 [.dat (vlst (List.map C_api_Product v1.Products)), .dat (vlst (List.map C_api_Plan v1.Plans))]), (2, .box none 40 [.dat (vint x11.At), .dat (vstr x11.App), .dat (vstr x11.Product), .dat (vint x11.Kind), .dat (vstr x11.Plan)])]) (fun i => gateref2_EventsFault_J3 v3 k8 x11 i = some q9) (fun i => rfl) ?_ ?_
          ·skip
           refine awp_draw mixed hN rfl rfl ?_
           refine qd rfl ?_
           refine qd rfl ?_
           refine seq_split (j := 1) rfl rfl (fun h33 => ?_) (fun h33 => ?_) rfl
           ·have h34 := un1 h33
            replace H := ift h34 H
            refine seq_g0 rfl rfl h33 (stp_fldP tyF29_1 rfl) ?_
            refine seq_g1 rfl rfl h33 (stp_load1 tyS27 rfl rfl) rfl ?_
            refine seq_g0 rfl rfl h33 (stp_move (.dat _) rfl) ?_
            obtain ⟨x35, h36, H⟩ := bnd H
            refine seq_g0 rfl rfl h33 (t_idxI tyE27 (fun _ => rfl) rfl rfl h36) ?_
            refine seq_g0 rfl rfl h33 (stp_fldE tyF64_1 rfl) ?_
            refine seq_g0 rfl rfl h33 (stp_loadE1 tyS9 rfl (map_at (at_some h36).2) rfl) ?_
            refine seq_g0 rfl rfl h33 (stp_fldP tyF40_2 rfl) ?_
            refine seq_g1 rfl rfl h33 (stp_load1 tyS9 rfl rfl) rfl ?_
            refine seq_g0 rfl rfl h33 (stp_sneq rfl rfl) ?_
            refine seq_run0 (stp_pick_t rfl (bTT h34) rfl) ?_
            refine qe rfl ?_
            refine ⟨rfl, ?_⟩
            exact ⟨decide (x35.Product ≠ x11.Product), H, ⟨rfl, rfl, rfl, rfl, rfl, rfl, rfl, rfl, rfl, trivial⟩, ⟨rfl, rfl, trivial⟩⟩
           ·have h37 := un2 h33
            replace H := iff_ h37 H
            refine seq_skip rfl rfl h33 ?_
            refine seq_skip rfl rfl h33 ?_
            refine seq_skip rfl rfl h33 ?_
            refine seq_skip rfl rfl h33 ?_
            refine seq_skip rfl rfl h33 ?_
            refine seq_skip rfl rfl h33 ?_
            refine seq_skip rfl rfl h33 ?_
            refine seq_skip rfl rfl h33 ?_
            refine seq_skip rfl rfl h33 ?_
            refine seq_run0 (stp_pick_f rfl (bFF h37) rfl) ?_
            refine qe rfl ?_
            refine ⟨rfl, ?_⟩
            exact ⟨false, H, ⟨rfl, rfl, rfl, rfl, rfl, rfl, rfl, rfl, rfl, trivial⟩, ⟨rfl, rfl, trivial⟩⟩
          ·rintro v38 H
           replace H : gateref2_EventsFault_J3 v3 k8 x11 v38 = some q9 := H
           unfold gateref2_EventsFault_J3 at H
           refine awp_cond _ rfl (fun h39 => ?_) (fun h39 => ?_)
           ·replace H := ift h39 H
            refine awp_seq ?_
            refine awp_plain hN rfl ?_
            refine qe rfl ?_
            refine awp_ret ?_
            replace H := retl H hq9
            cases H
            exact ⟨trivial, .inl rfl, trivial⟩
           ·replace H := iff_ h39 H
            refine awp_joinE (ι := Bool) (fun i => [(1, .dat (vlst (List.map C_api_App v2))), (2, .dat (vlst (List.map C_api_Event v3))), (3, .ptr 1 0), (21, .dat (vlst (List.map C_api_Event v3))), (22, .dat (vint (v3.length : Int))), (23, .dat (vint (k8 : Int))), (85, .dat (vbool i))]) (fun i => [(1, .box none 29 [.dat (vlst (List.map C_api_Product v1.Products)), .dat (vlst (List.map C_api_Plan v1.Plans))])]) (fun i => gateref2_EventsFault_J4 i = some q9) (fun i => rfl) ?_ ?_
            ·skip
             refine awp_draw mixed hN rfl rfl ?_
             refine qd rfl ?_
             refine seq_run0 (stp_gtr rfl rfl) ?_
             refine qd rfl ?_
             refine seq_split (j := 2) rfl rfl (fun h40 => ?_) (fun h40 => ?_) rfl
             ·have h41 := un1 h40
              replace H := ift h41 H
              refine seq_g0 rfl rfl h40 (stp_move (.dat _) rfl) ?_
              refine seq_g0 rfl rfl h40 (stp_move (.dat _) rfl) ?_
              refine seq_g0 rfl rfl h40 (stp_sub rfl rfl (by omega)) ?_
              obtain ⟨x42, h43, H⟩ := bnd H
              refine seq_g0 rfl rfl h40 (t_idxI tyE31 (fun _ => rfl) rfl rfl h43) ?_
              refine seq_g0 rfl rfl h40 (stp_loadEA tyS40 rfl (map_at (at_some h43).2) rfl) ?_
              refine seq_g1 rfl rfl h40 (stp_loadA tyS40 rfl rfl rfl) rfl ?_
              obtain ⟨r44, h45, H⟩ := bnd H
              refine seq_g0 rfl rfl h40 (stp_call (k_gateref2_EventOrder x42 x11 r44 h45) ⟨.inl rfl, .inl rfl, trivial⟩) ?_
              refine seq_g0 rfl rfl h40 (stp_geq rfl rfl) ?_
              refine seq_run0 (stp_pick_t rfl (bTT h41) rfl) ?_
              refine qe rfl ?_
              refine ⟨rfl, ?_⟩
              exact ⟨decide (0 ≤ r44), H, ⟨rfl, rfl, rfl, rfl, rfl, rfl, rfl, trivial⟩, ⟨rfl, trivial⟩⟩
             ·have h46 := un2 h40
              replace H := iff_ h46 H
              refine seq_skip rfl rfl h40 ?_
              refine seq_skip rfl rfl h40 ?_
              refine seq_skip rfl rfl h40 ?_
              refine seq_skip rfl rfl h40 ?_
              refine seq_skip rfl rfl h40 ?_
              refine seq_skip rfl rfl h40 ?_
              refine seq_skip rfl rfl h40 ?_
              refine seq_skip rfl rfl h40 ?_
              refine seq_run0 (stp_pick_f rfl (bFF h46) rfl) ?_
              refine qe rfl ?_
              refine ⟨rfl, ?_⟩
              exact ⟨false, H, ⟨rfl, rfl, rfl, rfl, rfl, rfl, rfl, trivial⟩, ⟨rfl, trivial⟩⟩
            ·rintro v47 H
             replace H : gateref2_EventsFault_J4 v47 = some q9 := H
             unfold gateref2_EventsFault_J4 at H
             refine awp_cond _ rfl (fun h48 => ?_) (fun h48 => ?_)
             ·replace H := ift h48 H
              refine awp_seq ?_
              refine awp_plain hN rfl ?_
              refine qe rfl ?_
              refine awp_ret ?_
              replace H := retl H hq9
              cases H
              exact ⟨trivial, .inl rfl, trivial⟩
             ·replace H := iff_ h48 H
              refine awp_skip ?_
              refine awp_plain hN rfl ?_
              refine seq_run0 (stp_add rfl rfl (by omega)) ?_
              refine qd rfl ?_
              exact ⟨_, backl H, ⟨rfl, rfl, rfl, rfl, rfl, rfl, trivial⟩, ⟨rfl, trivial⟩⟩
theorem k_gatelaw2_office (s1 : S_gatemake_Stream) (many2 : Int) (r : (S_api_Catalog × (List S_api_App) × (List S_api_Event) × Int × S_gatemake_Stream)) (H : m_gatelaw2_office s1 many2 = some r) : Imp Tryz.prog 4 25 (C_gatemake_Stream s1) [vint many2] (resOf [vagg (C_api_Catalog r.1), vlst (List.map C_api_App r.2.1), vlst (List.map C_api_Event r.2.2.1), vint r.2.2.2.1]) (C_gatemake_Stream r.2.2.2.2) := by
 refine imp_of (us := [vagg (C_api_Catalog r.1), vlst (List.map C_api_App r.2.1), vlst (List.map C_api_Event r.2.2.1), vint r.2.2.2.1]) (cs' := (C_gatemake_Stream r.2.2.2.2)) (by kernel_rfl) Tryz.func4 rfl rfl rfl rfl fun X bl hN => ?_
 unfold m_gatelaw2_office at H
 refine awp_seq ?_
 refine awp_plain hN rfl ?_
 refine seq_run2 (stp_alloc 1 tyZ29 rfl) rfl ?_
 refine qe rfl ?_
 refine qe rfl ?_
 refine qe rfl ?_
 refine awp_seq ?_
 refine awp_plain hN rfl ?_
 refine seq_run0 (stp_move (.ptr _ _) rfl) ?_
 obtain ⟨r3, h4, H⟩ := bnd H
 refine seq_run2 (stp_imp (k_gatemake_Stream_Catalog s1 r3 h4) rfl trivial rfl) rfl ?_
 refine seq_run0 (stp_move (.ptr _ _) rfl) ?_
 obtain ⟨r5, h6, H⟩ := bnd H
 refine seq_run2 (stp_imp (k_gatemake_Stream_Apps r3.2 r5 h6) rfl trivial rfl) rfl ?_
 refine seq_run2 (stp_alloc 2 tyZ29 rfl) rfl ?_
 refine seq_run2 (stp_storeW tyS29 rfl rfl rfl rfl) rfl ?_
 refine qe rfl ?_
 refine awp_seq ?_
 refine awp_plain hN rfl ?_
 refine seq_run0 (stp_move (.ptr _ _) rfl) ?_
 refine seq_run1 (stp_loadA tyS29 rfl rfl rfl) rfl ?_
 refine qd rfl ?_
 refine qd rfl ?_
 obtain ⟨r7, h8, H⟩ := bnd H
 refine seq_run2 (stp_imp (k_gatemake_Stream_Events r5.2 r3.1 r5.1 many2 r7 h8) rfl ⟨.inl rfl, .inl rfl, .inl rfl, trivial⟩ rfl) rfl ?_
 refine qe rfl ?_
 refine awp_seq ?_
 refine awp_draw mixed hN rfl rfl ?_
 refine seq_run1 (stp_loadA tyS29 rfl rfl rfl) rfl ?_
 refine qd rfl ?_
 refine qd rfl ?_
 refine seq_run1 (stp_loadA tyS29 rfl rfl rfl) rfl ?_
 refine qd rfl ?_
 refine qd rfl ?_
 obtain ⟨r9, h10, H⟩ := bnd H
 refine seq_run0 (stp_call (k_gateref2_EventsFault r3.1 r5.1 r7.1 r9 h10) ⟨.inl rfl, .inl rfl, .inl rfl, trivial⟩) ?_
 refine seq_run2 (stp_storeW tyS29 rfl rfl rfl rfl) rfl ?_
 refine qe rfl ?_
 refine qe rfl ?_
 refine qe rfl ?_
 refine ⟨rfl, ?_⟩
 refine awp_ret ?_
 cases H
 exact ⟨trivial, ⟨.inl ⟨_, _, _, C_api_Catalog r3.1, rfl, rfl, rfl, rfl, tyS29⟩, .inl rfl, .inl rfl, .inl rfl, trivial⟩, rfl⟩
theorem kr_slices_Clone_L_api_Event_api_Event_ (l r : List S_api_Event) (H : m_slices_Clone l = some r) : FnG Tryz.prog 8 [.dat (vlst (List.map C_api_Event l))] [] (.row 900 r.length) [(900, .row 40 5 (List.map C_api_Event r))] := by
 obtain ⟨hl, rfl⟩ := clone_some H
 refine fnG_of (by kernel_rfl) Tryz.func8 rfl rfl rfl rfl fun X A hN => ?_
 refine awp_nilcase 0 rfl (fun h0 => ?_) ?_
 ·obtain rfl := List.map_eq_nil_iff.1 h0
  refine awp_seq ?_
  refine awp_plain hN rfl ?_
  refine qe rfl ?_
  refine awp_seq ?_
  refine awp_seq ?_
  refine awp_plain hN rfl ?_
  refine qd rfl ?_
  refine seq_run0 (stp_eqnil_t tyU31 rfl) ?_
  refine awp_cond _ rfl (fun h => ?_) (fun h => by cases h)
  refine awp_seq ?_
  refine awp_plain hN rfl ?_
  refine qe rfl ?_
  refine awp_nilrow 2 900 40 5 rfl rfl rfl ?_
  refine awp_ret ?_
  exact ⟨trivial, [(2, .row 900 0)], ⟨rfl, trivial⟩, ⟨rfl, trivial⟩, rfl, .inr (.inl ⟨2, rfl, rfl⟩)⟩
 ·refine awp_seq ?_
  refine awp_plain hN rfl ?_
  refine qe rfl ?_
  refine awp_seq ?_
  refine awp_seq ?_
  refine awp_plain hN rfl ?_
  refine qd rfl ?_
  refine seq_run0 (stp_eqnil_f tyU31 rfl) ?_
  refine awp_cond _ rfl (fun h => by cases h) (fun h => ?_)
  refine awp_skip ?_
  refine awp_seq ?_
  refine awp_wk 0 (u' := vlst (List.map C_api_Event l)) rfl wk_nn ?_
  refine awp_plain hN rfl ?_
  refine seq_run2 (stp_lit0 900 tyL31) rfl ?_
  refine qd rfl ?_
  refine seq_run2 (t_app2 (C := C_api_Event) (xs := []) tyL31 (fun _ => rfl) rfl rfl rfl (by simpa using hl) rfl) rfl ?_
  refine seq_run0 (stp_assign (.row _ _) rfl) ?_
  refine awp_ret ?_
  exact ⟨trivial, [(2, .row 900 l.length)], ⟨rfl, trivial⟩, ⟨rfl, trivial⟩, rfl, .inr (.inl ⟨2, rfl, rfl⟩)⟩
theorem k_slices_Clone_L_api_Event_api_Event_ (l r : List S_api_Event) (H : m_slices_Clone l = some r) : Fn Tryz.prog 8 [vlst (List.map C_api_Event l)] (resOf [vlst (List.map C_api_Event r)]) := by
 have h := kr_slices_Clone_L_api_Event_api_Event_ l r H
 rw [← List.length_map (f := C_api_Event)] at h
 exact fn_of_fnG h
theorem kr_slices_Grow_L_api_Event_api_Event_ (n : Int) (r : List S_api_Event) (H : m_slices_Grow n = some r) : FnG Tryz.prog 62 [.dat vnil, .dat (vint n)] [] (.row 900 r.length) [(900, .row 40 5 (List.map C_api_Event r))] := by
 obtain ⟨h0, h1, rfl⟩ := grow_some H
 exact fnG_grow Tryz.grow62 rfl rfl tyL31 rfl (by kernel_rfl) n h0 h1
theorem kr_slices_Concat_L_api_Event_api_Event_ (slices1 : (List (List S_api_Event))) (r : ((List S_api_Event))) (H : m_slices_Concat_L_api_Event_api_Event_ slices1 = some r) : FnG Tryz.prog 36 [.dat (vlst (List.map C_L_api_Event slices1))] [] (.row 1 r.length) [(1, .row 40 5 (List.map C_api_Event r))] := by
 refine fnG_of (by kernel_rfl) Tryz.func36 rfl rfl rfl rfl fun X A hN => ?_
 unfold m_slices_Concat_L_api_Event_api_Event_ at H
 refine awp_seq ?_
 refine awp_plain hN rfl ?_
 refine qe rfl ?_
 refine awp_seq ?_
 refine awp_plain hN rfl ?_
 refine qe rfl ?_
 refine awp_seq ?_
 refine awp_seq ?_
 refine awp_plain hN rfl ?_
 refine qd rfl ?_
 refine seq_run0 (t_len tyU104 rfl) ?_
 refine qd rfl ?_
 refine awp_block ?_
 obtain ⟨h5, H⟩ := gif H
 refine awp_forL (fun (k3 : Nat) (s : Int) => [(0, .dat (vlst (List.map C_L_api_Event slices1))), (3, .dat (vint s)), (9, .dat (vlst (List.map C_L_api_Event slices1))), (10, .dat (vint (slices1.length : Int))), (11, .dat (vint (k3 : Int)))]) (fun (k3 : Nat) (s : Int) => []) 0 H ⟨rfl, rfl, rfl, rfl, rfl, trivial⟩ trivial (fun _ _ => rfl) ?_ ?_
 ·rintro size2 H
  replace H : slices_Concat_L_api_Event_api_Event__E1 slices1 size2 = some r := H
  unfold slices_Concat_L_api_Event_api_Event__E1 at H
  refine awp_seq ?_
  refine awp_plain hN rfl ?_
  refine seq_run0 (stp_lss rfl rfl) ?_
  refine awp_seq ?_
  refine awp_cond _ rfl (fun h => (lt_t h).elim) (fun h => ?_)
  refine awp_exit ?_
  refine awp_seq ?_
  refine awp_plain hN rfl ?_
  refine qd rfl ?_
  obtain ⟨r7, h8, H⟩ := bnd H
  refine seq_callG (rn [(900, 1)]) [] [(900, _)] (kr_slices_Grow_L_api_Event_api_Event_ size2 r7 h8) ⟨rfl, trivial⟩ ⟨.inl (.inl rfl), .inl (.inl rfl), trivial⟩ trivial rfl ?_
  refine seq_run0 (stp_assign (.row _ _) rfl) ?_
  refine awp_seq ?_
  refine awp_seq ?_
  refine awp_plain hN rfl ?_
  refine qd rfl ?_
  refine seq_run0 (t_len tyU104 rfl) ?_
  refine qd rfl ?_
  refine awp_block ?_
  obtain ⟨h12, H⟩ := gif H
  refine awp_forL (fun (k10 : Nat) (s : (List S_api_Event)) => [(6, .row 1 s.length), (25, .dat (vlst (List.map C_L_api_Event slices1))), (26, .dat (vint (slices1.length : Int))), (27, .dat (vint (k10 : Int)))]) (fun (k10 : Nat) (s : (List S_api_Event)) => [(1, .row 40 5 (List.map C_api_Event s))]) r7 H ⟨rfl, rfl, rfl, rfl, trivial⟩ ⟨rfl, trivial⟩ (fun _ _ => rfl) ?_ ?_
  ·rintro l9 H
   replace H : slices_Concat_L_api_Event_api_Event__E2 l9 = some r := H
   unfold slices_Concat_L_api_Event_api_Event__E2 at H
   refine awp_seq ?_
   refine awp_plain hN rfl ?_
   refine seq_run0 (stp_lss rfl rfl) ?_
   refine awp_seq ?_
   refine awp_cond _ rfl (fun h => (lt_t h).elim) (fun h => ?_)
   refine awp_exit ?_
   refine awp_seq ?_
   refine awp_plain hN rfl ?_
   refine seq_run0 (stp_move (.row _ _) rfl) ?_
   refine seq_run0 (stp_assign (.row _ _) rfl) ?_
   refine awp_ret ?_
   cases H
   exact ⟨trivial, [(2, .row 1 _)], ⟨rfl, trivial⟩, ⟨rfl, trivial⟩, rfl, .inr (.inl ⟨2, rfl, rfl⟩)⟩
  ·rintro k10 x13 l9 q11 h14 h15 H hq11
   replace H : slices_Concat_L_api_Event_api_Event__L2 k10 x13 l9 = some q11 := H
   unfold slices_Concat_L_api_Event_api_Event__L2 at H
   refine awp_seq ?_
   refine awp_plain hN rfl ?_
   refine seq_run0 (stp_lss rfl rfl) ?_
   refine awp_seq ?_
   refine awp_cond _ rfl (fun h => ?_) (fun h => (lt_f h14 h).elim)
   refine awp_skip ?_
   refine awp_seq ?_
   refine awp_block ?_
   refine awp_seq ?_
   refine awp_plain hN rfl ?_
   refine seq_run0 (t_idx tyE104 (fun _ => rfl) rfl rfl h15) ?_
   refine seq_run0 (stp_loadE1 tyS31 rfl (map_at h15) rfl) ?_
   refine qe rfl ?_
   refine awp_plain hN rfl ?_
   refine seq_run0 (stp_move (.row _ _) rfl) ?_
   refine qd rfl ?_
   obtain ⟨h16, H⟩ := gif H
   refine seq_run2 (t_app2 tyL31 (fun _ => rfl) rfl rfl rfl h16 rfl) rfl ?_
   refine seq_run0 (stp_assign (.row _ _) rfl) ?_
   refine awp_plain hN rfl ?_
   refine seq_run0 (stp_add rfl rfl (by omega)) ?_
   refine qd rfl ?_
   exact ⟨_, backl H, ⟨rfl, rfl, rfl, rfl, trivial⟩, ⟨rfl, trivial⟩⟩
 ·rintro k3 x6 size2 q4 h17 h18 H hq4
  replace H : slices_Concat_L_api_Event_api_Event__L1 k3 x6 size2 = some q4 := H
  unfold slices_Concat_L_api_Event_api_Event__L1 at H
  refine awp_seq ?_
  refine awp_plain hN rfl ?_
  refine seq_run0 (stp_lss rfl rfl) ?_
  refine awp_seq ?_
  refine awp_cond _ rfl (fun h => ?_) (fun h => (lt_f h17 h).elim)
  refine awp_skip ?_
  refine awp_seq ?_
  refine awp_block ?_
  refine awp_seq ?_
  refine awp_plain hN rfl ?_
  refine seq_run0 (t_idx tyE104 (fun _ => rfl) rfl rfl h18) ?_
  refine seq_run0 (stp_loadE1 tyS31 rfl (map_at h18) rfl) ?_
  refine qe rfl ?_
  refine awp_seq ?_
  refine awp_plain hN rfl ?_
  refine qd rfl ?_
  refine qd rfl ?_
  refine seq_run0 (t_len tyU31 rfl) ?_
  refine seq_run0 (stp_wrap _ rfl rfl (.inl ⟨rfl, rfl⟩)) ?_
  refine qe rfl ?_
  refine awp_seq ?_
  refine awp_plain hN rfl ?_
  refine qd rfl ?_
  refine seq_run0 (stp_lss rfl rfl) ?_
  refine awp_cond _ rfl (fun h19 => ?_) (fun h19 => ?_)
  ·replace H := ift h19 H
   cases H
  ·replace H := iff_ h19 H
   refine awp_skip ?_
   refine awp_plain hN rfl ?_
   refine seq_run0 (stp_add rfl rfl (by omega)) ?_
   refine qd rfl ?_
   exact ⟨_, backl H, ⟨rfl, rfl, rfl, rfl, rfl, trivial⟩, trivial⟩
theorem k_cmp_isNaN_int_ (x1 : Int) (r : (Bool)) (H : m_cmp_isNaN_int_ x1 = some r) : Fn Tryz.prog 91 [vint x1] (resOf [vbool r]) := by
 refine ⟨by kernel_rfl, pure_of (us := [vbool r]) Tryz.func91 rfl rfl rfl rfl fun X hN => ?_⟩
 unfold m_cmp_isNaN_int_ at H
 refine awp_seq ?_
 refine awp_plain hN rfl ?_
 refine qe rfl ?_
 refine awp_seq ?_
 refine awp_plain hN rfl ?_
 refine qd rfl ?_
 refine qd rfl ?_
 refine seq_run0 (stp_neq rfl rfl) ?_
 refine qe rfl ?_
 refine awp_ret ?_
 cases H
 exact ⟨trivial, .inl rfl, trivial⟩
theorem k_cmp_Compare_int_ (x1 : Int) (y2 : Int) (r : (Int)) (H : m_cmp_Compare_int_ x1 y2 = some r) : Fn Tryz.prog 64 [vint x1, vint y2] (resOf [vint r]) := by
 refine ⟨by kernel_rfl, pure_of (us := [vint r]) Tryz.func64 rfl rfl rfl rfl fun X hN => ?_⟩
 unfold m_cmp_Compare_int_ at H
 refine awp_seq ?_
 refine awp_plain hN rfl ?_
 refine qe rfl ?_
 refine awp_seq ?_
 refine awp_plain hN rfl ?_
 refine qd rfl ?_
 obtain ⟨r3, h4, H⟩ := bnd H
 refine seq_run0 (stp_call (k_cmp_isNaN_int_ x1 r3 h4) ⟨.inl rfl, trivial⟩) ?_
 refine qe rfl ?_
 refine awp_seq ?_
 refine awp_plain hN rfl ?_
 refine qd rfl ?_
 obtain ⟨r5, h6, H⟩ := bnd H
 refine seq_run0 (stp_call (k_cmp_isNaN_int_ y2 r5 h6) ⟨.inl rfl, trivial⟩) ?_
 refine qe rfl ?_
 refine awp_seq ?_
 refine awp_seq ?_
 refine awp_plain hN rfl ?_
 refine qd rfl ?_
 refine awp_cond _ rfl (fun h7 => ?_) (fun h7 => ?_)
 ·replace H := ift h7 H
  refine awp_seq ?_
  refine awp_seq ?_
  refine awp_plain hN rfl ?_
  refine qd rfl ?_
  refine awp_cond _ rfl (fun h8 => ?_) (fun h8 => ?_)
  ·replace H := ift h8 H
   refine awp_seq ?_
   refine awp_plain hN rfl ?_
   refine qe rfl ?_
   refine awp_ret ?_
   cases H
   exact ⟨trivial, .inl rfl, trivial⟩
  ·replace H := iff_ h8 H
   refine awp_skip ?_
   refine awp_seq ?_
   refine awp_plain hN rfl ?_
   refine qe rfl ?_
   refine awp_ret ?_
   cases H
   exact ⟨trivial, .inl rfl, trivial⟩
 ·replace H := iff_ h7 H
  refine awp_skip ?_
  refine awp_seq ?_
  refine awp_seq ?_
  refine awp_plain hN rfl ?_
  refine qd rfl ?_
  refine awp_cond _ rfl (fun h9 => ?_) (fun h9 => ?_)
  ·replace H := ift h9 H
   refine awp_seq ?_
   refine awp_plain hN rfl ?_
   refine qe rfl ?_
   refine awp_ret ?_
   cases H
   exact ⟨trivial, .inl rfl, trivial⟩
  ·replace H := iff_ h9 H
   refine awp_skip ?_
   refine awp_seq ?_
   refine awp_seq ?_
   refine awp_plain hN rfl ?_
   refine qd rfl ?_
   refine qd rfl ?_
   refine seq_run0 (stp_lss rfl rfl) ?_
   refine awp_cond _ rfl (fun h10 => ?_) (fun h10 => ?_)
   ·replace H := ift h10 H
    refine awp_seq ?_
    refine awp_plain hN rfl ?_
    refine qe rfl ?_
    refine awp_ret ?_
    cases H
    exact ⟨trivial, .inl rfl, trivial⟩
   ·replace H := iff_ h10 H
    refine awp_skip ?_
    refine awp_seq ?_
    refine awp_seq ?_
    refine awp_plain hN rfl ?_
    refine qd rfl ?_
    refine qd rfl ?_
    refine seq_run0 (stp_gtr rfl rfl) ?_
    refine awp_cond _ rfl (fun h11 => ?_) (fun h11 => ?_)
    ·replace H := ift h11 H
     refine awp_seq ?_
     refine awp_plain hN rfl ?_
     refine qe rfl ?_
     refine awp_ret ?_
     cases H
     exact ⟨trivial, .inl rfl, trivial⟩
    ·replace H := iff_ h11 H
     refine awp_skip ?_
     refine awp_seq ?_
     refine awp_plain hN rfl ?_
     refine qe rfl ?_
     refine awp_ret ?_
     cases H
     exact ⟨trivial, .inl rfl, trivial⟩
theorem k_strings_Compare (a b : Bs) (r : Int) (H : m_strings_Compare a b = some r) : Fn Tryz.prog 65 [vstr a, vstr b] (resOf [vint r]) := by
 cases H
 refine fn_of_calls (by kernel_rfl) fun M w vs h => ?_
 have h1 := Ts_vals (us := [.string ⟨a.toArray⟩, .string ⟨b.toArray⟩]) h
 subst h1
 refine (Tryz.strings_Compare ⟨a.toArray⟩ ⟨b.toArray⟩ w).mono ?_
 rintro e w' ⟨rfl, rfl⟩
 exact ⟨_, rfl, rfl, Kp.refl _ _⟩
theorem k_cmp_Or_int_ (vals1 : (List Int)) (r : (Int)) (H : m_cmp_Or_int_ vals1 = some r) : Fn Tryz.prog 63 [vlst (List.map C_int vals1)] (resOf [vint r]) := by
 refine ⟨by kernel_rfl, pure_of (us := [vint r]) Tryz.func63 rfl rfl rfl rfl fun X hN => ?_⟩
 unfold m_cmp_Or_int_ at H
 refine awp_seq ?_
 refine awp_plain hN rfl ?_
 refine qe rfl ?_
 refine awp_seq ?_
 refine awp_plain hN rfl ?_
 refine qe rfl ?_
 refine awp_seq ?_
 refine awp_seq ?_
 refine awp_plain hN rfl ?_
 refine qd rfl ?_
 refine seq_run0 (t_len tyU22 rfl) ?_
 refine qd rfl ?_
 refine awp_block ?_
 obtain ⟨h4, H⟩ := gif H
 refine awp_forL (fun (k2 : Nat) (s : Unit) => [(3, .dat (vint 0)), (6, .dat (vlst (List.map C_int vals1))), (7, .dat (vint (vals1.length : Int))), (8, .dat (vint (k2 : Int)))]) (fun (k2 : Nat) (s : Unit) => []) () H ⟨rfl, rfl, rfl, rfl, trivial⟩ trivial (fun _ _ => rfl) ?_ ?_
 ·rintro ⟨⟩ H
  replace H : cmp_Or_int__E1 = some r := H
  unfold cmp_Or_int__E1 at H
  refine awp_seq ?_
  refine awp_plain hN rfl ?_
  refine seq_run0 (stp_lss rfl rfl) ?_
  refine awp_seq ?_
  refine awp_cond _ rfl (fun h => (lt_t h).elim) (fun h => ?_)
  refine awp_exit ?_
  refine awp_seq ?_
  refine awp_plain hN rfl ?_
  refine qd rfl ?_
  refine qe rfl ?_
  refine awp_ret ?_
  cases H
  exact ⟨trivial, .inl rfl, trivial⟩
 ·rintro k2 x5 ⟨⟩ q3 h6 h7 H hq3
  replace H : cmp_Or_int__L1 k2 x5 = some q3 := H
  unfold cmp_Or_int__L1 at H
  refine awp_seq ?_
  refine awp_plain hN rfl ?_
  refine seq_run0 (stp_lss rfl rfl) ?_
  refine awp_seq ?_
  refine awp_cond _ rfl (fun h => ?_) (fun h => (lt_f h6 h).elim)
  refine awp_skip ?_
  refine awp_seq ?_
  refine awp_block ?_
  refine awp_seq ?_
  refine awp_plain hN rfl ?_
  refine seq_run0 (t_idx tyE22 (fun _ => rfl) rfl rfl h7) ?_
  refine seq_run0 (stp_loadE1 tyS3 rfl (map_at h7) rfl) ?_
  refine qe rfl ?_
  refine awp_seq ?_
  refine awp_plain hN rfl ?_
  refine qd rfl ?_
  refine qd rfl ?_
  refine seq_run0 (stp_neq rfl rfl) ?_
  refine awp_cond _ rfl (fun h8 => ?_) (fun h8 => ?_)
  ·replace H := ift h8 H
   refine awp_seq ?_
   refine awp_plain hN rfl ?_
   refine qd rfl ?_
   refine qe rfl ?_
   refine awp_ret ?_
   replace H := retl H hq3
   cases H
   exact ⟨trivial, .inl rfl, trivial⟩
  ·replace H := iff_ h8 H
   refine awp_skip ?_
   refine awp_plain hN rfl ?_
   refine seq_run0 (stp_add rfl rfl (by omega)) ?_
   refine qd rfl ?_
   exact ⟨_, backl H, ⟨rfl, rfl, rfl, rfl, trivial⟩, trivial⟩
theorem k_portal_compareEvents (a1 : S_api_Event) (b2 : S_api_Event) (r : (Int)) (H : m_portal_compareEvents a1 b2 = some r) : Fn Tryz.prog 37 [vagg (C_api_Event a1), vagg (C_api_Event b2)] (resOf [vint r]) := by
 refine ⟨by kernel_rfl, pure_of (us := [vint r]) Tryz.func37 rfl rfl rfl rfl fun X hN => ?_⟩
 unfold m_portal_compareEvents at H
 refine awp_seq ?_
 refine awp_plain hN rfl ?_
 refine seq_run2 (stp_boxA 1 rfl) rfl ?_
 refine seq_run2 (stp_boxA 2 rfl) rfl ?_
 refine qe rfl ?_
 refine awp_seq ?_
 refine awp_draw mixed hN rfl rfl ?_
 refine seq_run0 (stp_fldP tyF40_0 rfl) ?_
 refine seq_run1 (stp_load1 tyS3 rfl rfl) rfl ?_
 refine seq_run0 (stp_fldP tyF40_0 rfl) ?_
 refine seq_run1 (stp_load1 tyS3 rfl rfl) rfl ?_
 obtain ⟨r3, h4, H⟩ := bnd H
 refine seq_run0 (stp_call (k_cmp_Compare_int_ a1.At b2.At r3 h4) ⟨.inl rfl, .inl rfl, trivial⟩) ?_
 refine seq_run0 (stp_fldP tyF40_1 rfl) ?_
 refine seq_run1 (stp_load1 tyS9 rfl rfl) rfl ?_
 refine seq_run0 (stp_fldP tyF40_1 rfl) ?_
 refine seq_run1 (stp_load1 tyS9 rfl rfl) rfl ?_
 obtain ⟨r5, h6, H⟩ := bnd H
 refine seq_run0 (stp_call (k_strings_Compare a1.App b2.App r5 h6) ⟨.inl rfl, .inl rfl, trivial⟩) ?_
 refine seq_run0 (stp_fldP tyF40_2 rfl) ?_
 refine seq_run1 (stp_load1 tyS9 rfl rfl) rfl ?_
 refine seq_run0 (stp_fldP tyF40_2 rfl) ?_
 refine seq_run1 (stp_load1 tyS9 rfl rfl) rfl ?_
 obtain ⟨r7, h8, H⟩ := bnd H
 refine seq_run0 (stp_call (k_strings_Compare a1.Product b2.Product r7 h8) ⟨.inl rfl, .inl rfl, trivial⟩) ?_
 refine seq_run0 (stp_dat (u' := vlst (List.map C_int [r3, r5, r7])) (stp_lit [[_], [_], [_]] tyL22 ⟨rfl, .inl ⟨_, rfl, rfl, rfl⟩, rfl, rfl, .inl ⟨_, rfl, rfl, rfl⟩, rfl, rfl, .inl ⟨_, rfl, rfl, rfl⟩, rfl, trivial⟩ rfl rfl) rfl) ?_
 obtain ⟨r9, h10, H⟩ := bnd H
 refine seq_run0 (stp_call (k_cmp_Or_int_ [r3, r5, r7] r9 h10) ⟨.inl rfl, trivial⟩) ?_
 refine qe rfl ?_
 refine ⟨rfl, ?_⟩
 refine awp_ret ?_
 cases H
 exact ⟨trivial, .inl rfl, trivial⟩
theorem ks_slices_Compact_L_api_Event_api_Event_ (s1 : (List S_api_Event)) (r : ((List S_api_Event))) (H : m_slices_Compact_L_api_Event_api_Event_ s1 = some r) : FnG Tryz.prog 38 [.row 0 s1.length] [(0, .row 40 5 (List.map C_api_Event s1))] (.row 900 r.length) [(900, .row 40 5 (List.map C_api_Event r))] := by
 refine fnG_of (by kernel_rfl) Tryz.func38 rfl rfl rfl rfl fun X A hN => ?_
 unfold m_slices_Compact_L_api_Event_api_Event_ at H
 refine awp_seq ?_
 refine awp_plain hN rfl ?_
 refine qe rfl ?_
 refine awp_seq ?_
 refine awp_seq ?_
 refine awp_plain hN rfl ?_
 refine seq_run0 (stp_move (.row _ _) rfl) ?_
 refine seq_run1 (t_lenR tyU31 rfl rfl) rfl ?_
 refine seq_run0 (stp_lss rfl rfl) ?_
 refine awp_cond _ rfl (fun h2 => ?_) (fun h2 => ?_)
 ·replace H := ift h2 H
  refine awp_seq ?_
  refine awp_plain hN rfl ?_
  refine seq_run0 (stp_move (.row _ _) rfl) ?_
  refine seq_run0 (stp_assign (.row _ _) rfl) ?_
  refine awp_ren 2 0 900 rfl rfl (by rw [List.length_map]) rfl ?_
  refine awp_ret ?_
  cases H
  exact ⟨trivial, [(2, .row 900 _)], ⟨rfl, trivial⟩, ⟨rfl, trivial⟩, rfl, .inr (.inl ⟨2, rfl, rfl⟩)⟩
 ·replace H := iff_ h2 H
  refine awp_skip ?_
  refine awp_joinE (ι := Unit) (fun i => [(0, .row 0 s1.length)]) (fun i => [(0, .row 40 5 (List.map C_api_Event s1))]) (fun i => slices_Compact_L_api_Event_api_Event__J1 s1 = some r) (fun i => rfl) ?_ ?_
  ·skip
   refine awp_seq ?_
   refine awp_plain hN rfl ?_
   refine qe rfl ?_
   refine awp_block ?_
   refine awp_iter (fun (s : Int) => [(0, .row 0 s1.length), (3, .dat (vint s))]) (fun (s : Int) => [(0, .row 40 5 (List.map C_api_Event s1))]) 1 H ⟨rfl, rfl, trivial⟩ ⟨rfl, trivial⟩ (fun _ => rfl) ?_
   rintro k3 q4 H hq4
   replace H : slices_Compact_L_api_Event_api_Event__L2 s1 k3 = some q4 := H
   unfold slices_Compact_L_api_Event_api_Event__L2 at H
   refine awp_seq ?_
   refine awp_seq ?_
   refine awp_plain hN rfl ?_
   refine qd rfl ?_
   refine seq_run0 (stp_move (.row _ _) rfl) ?_
   refine seq_run1 (t_lenR tyU31 rfl rfl) rfl ?_
   refine seq_run0 (stp_lss rfl rfl) ?_
   refine awp_cond _ rfl (fun h5 => ?_) (fun h5 => ?_)
   ·replace H := ift h5 H
    refine awp_skip ?_
    refine awp_seq ?_
    refine awp_block ?_
    refine awp_seq ?_
    refine awp_draw mixed hN rfl rfl ?_
    refine seq_run0 (stp_move (.row _ _) rfl) ?_
    refine qd rfl ?_
    obtain ⟨x6, h7, H⟩ := bnd H
    refine seq_run1 (t_idxRI tyE31 rfl rfl rfl h7) rfl ?_
    refine seq_run1 (t_loadRA tyS40 rfl rfl (at_some h7).2 rfl) rfl ?_
    refine seq_run0 (stp_move (.row _ _) rfl) ?_
    refine qd rfl ?_
    refine seq_run0 (stp_wrap _ rfl rfl (.inr (.inl ⟨rfl, rfl⟩))) ?_
    obtain ⟨x8, h9, H⟩ := bnd H
    refine seq_run1 (t_idxRI tyE31 rfl rfl rfl h9) rfl ?_
    refine seq_run1 (t_loadRA tyS40 rfl rfl (at_some h9).2 rfl) rfl ?_
    refine seq_run0 (stp_aeql [_, _, _, _, _] [_, _, _, _, _] tyQ40 rfl rfl rfl) ?_
    refine ⟨rfl, ?_⟩
    refine awp_cond _ rfl (fun h10 => ?_) (fun h10 => ?_)
    ·replace H := ift h10 H
     refine awp_seq ?_
     refine awp_plain hN rfl ?_
     refine seq_run0 (stp_move (.row _ _) rfl) ?_
     refine qd rfl ?_
     obtain ⟨h11, H⟩ := gif H
     refine seq_run1 (t_rsub (C := C_api_Event) tyE31 rfl rfl rfl h11) rfl ?_
     refine seq_run0 (stp_assign (.rsub _ _ _ _) rfl) ?_
     refine awp_joinE (ι := Int × (List S_api_Event)) (fun i => [(0, .row 0 i.2.length), (3, .dat (vint i.1))]) (fun i => [(0, .row 40 5 (List.map C_api_Event i.2))]) (fun i => slices_Compact_L_api_Event_api_Event__J3 i.1 i.2 = some q4) (fun i => rfl) ?_ ?_
     ·skip
      refine awp_seq ?_
      refine awp_plain hN rfl ?_
      refine qe rfl ?_
      refine awp_block ?_
      refine awp_iter (fun (s : Int × Int × (List S_api_Event)) => [(0, .row 0 s.2.2.length), (3, .dat (vint s.1)), (4, .rsub 0 s.2.2.length 5 k3.toNat), (5, .dat (vint s.2.1))]) (fun (s : Int × Int × (List S_api_Event)) => [(0, .row 40 5 (List.map C_api_Event s.2.2))]) (k3, 1, s1) H ⟨rfl, rfl, rfl, rfl, trivial⟩ ⟨rfl, trivial⟩ (fun _ => rfl) ?_
      rintro ⟨k12, k13, l14⟩ q15 H hq15
      replace H : slices_Compact_L_api_Event_api_Event__L4 k3 k12 k13 l14 = some q15 := H
      unfold slices_Compact_L_api_Event_api_Event__L4 at H
      refine awp_seq ?_
      refine awp_seq ?_
      refine awp_plain hN rfl ?_
      refine qd rfl ?_
      refine seq_run0 (stp_move (.rsub _ _ _ _) rfl) ?_
      refine seq_run1 (t_lenRS tyU31 rfl rfl) rfl ?_
      refine seq_run0 (stp_lss rfl rfl) ?_
      refine awp_cond _ rfl (fun h16 => ?_) (fun h16 => ?_)
      ·replace H := ift h16 H
       refine awp_skip ?_
       refine awp_joinE (ι := Int × (List S_api_Event)) (fun i => [(0, .row 0 i.2.length), (3, .dat (vint i.1)), (4, .rsub 0 i.2.length 5 k3.toNat), (5, .dat (vint k13))]) (fun i => [(0, .row 40 5 (List.map C_api_Event i.2))]) (fun i => slices_Compact_L_api_Event_api_Event__J5 k13 i.1 i.2 = some q15) (fun i => rfl) ?_ ?_
       ·skip
        refine awp_block ?_
        refine awp_seq ?_
        refine awp_draw mixed hN rfl rfl ?_
        refine seq_run0 (stp_move (.rsub _ _ _ _) rfl) ?_
        refine qd rfl ?_
        obtain ⟨x17, h18, H⟩ := bnd H
        refine seq_run1 (t_idxRSI tyE31 rfl rfl rfl h18) rfl ?_
        refine seq_run1 (t_loadRA tyS40 rfl rfl (drp_at (at_some h18).2) rfl) rfl ?_
        refine seq_run0 (stp_move (.rsub _ _ _ _) rfl) ?_
        refine qd rfl ?_
        refine seq_run0 (stp_wrap _ rfl rfl (.inr (.inl ⟨rfl, rfl⟩))) ?_
        obtain ⟨x19, h20, H⟩ := bnd H
        refine seq_run1 (t_idxRSI tyE31 rfl rfl rfl h20) rfl ?_
        refine seq_run1 (t_loadRA tyS40 rfl rfl (drp_at (at_some h20).2) rfl) rfl ?_
        refine seq_run0 (stp_aneq [_, _, _, _, _] [_, _, _, _, _] tyQ40 rfl rfl rfl) ?_
        refine ⟨rfl, ?_⟩
        refine awp_cond _ rfl (fun h21 => ?_) (fun h21 => ?_)
        ·replace H := ift h21 H
         refine awp_seq ?_
         refine awp_plain hN rfl ?_
         refine seq_run0 (stp_move (.row _ _) rfl) ?_
         refine qd rfl ?_
         refine seq_run0 (stp_move (.rsub _ _ _ _) rfl) ?_
         refine qd rfl ?_
         refine seq_run1 (t_idxRSI tyE31 rfl rfl rfl h18) rfl ?_
         refine seq_run1 (t_loadRA tyS40 rfl rfl (drp_at (at_some h18).2) rfl) rfl ?_
         obtain ⟨x22, h23, H⟩ := bnd H
         refine seq_run1 (t_idxRI tyE31 rfl rfl rfl h23) rfl ?_
         refine seq_run2 (t_storeRA (C := C_api_Event) tyS40 rfl rfl rfl (at_lt (at_some h23).2) rfl rfl) rfl ?_
         refine awp_plain hN rfl ?_
         refine qd rfl ?_
         refine seq_run0 (stp_wrap _ rfl rfl (.inl ⟨rfl, rfl⟩)) ?_
         refine qe rfl ?_
         exact ⟨(wr (k12 + 1), (l14.set k12.toNat x17)), H, ⟨congrArg (Slot.row 0) (by simp), rfl, congrArg (fun n => Slot.rsub 0 n 5 k3.toNat) (by simp), rfl, trivial⟩, ⟨rfl, trivial⟩⟩
        ·replace H := iff_ h21 H
         refine awp_skip ?_
         exact ⟨(k12, l14), H, ⟨rfl, rfl, rfl, rfl, trivial⟩, ⟨rfl, trivial⟩⟩
       ·rintro ⟨k24, s25⟩ H
        replace H : slices_Compact_L_api_Event_api_Event__J5 k13 k24 s25 = some q15 := H
        unfold slices_Compact_L_api_Event_api_Event__J5 at H
        refine awp_plain hN rfl ?_
        refine qd rfl ?_
        refine seq_run0 (stp_wrap _ rfl rfl (.inl ⟨rfl, rfl⟩)) ?_
        refine qe rfl ?_
        exact ⟨_, backl H, ⟨rfl, rfl, rfl, rfl, trivial⟩, ⟨rfl, trivial⟩⟩
      ·replace H := iff_ h16 H
       refine awp_exit ?_
       replace H := outl H hq15
       exact ⟨(k12, l14), H, ⟨rfl, rfl, trivial⟩, ⟨rfl, trivial⟩⟩
     ·rintro ⟨k26, s27⟩ H
      replace H : slices_Compact_L_api_Event_api_Event__J3 k26 s27 = some q4 := H
      unfold slices_Compact_L_api_Event_api_Event__J3 at H
      refine awp_seq ?_
      refine awp_plain hN rfl ?_
      refine seq_run0 (stp_move (.row _ _) rfl) ?_
      refine qd rfl ?_
      obtain ⟨h28, H⟩ := gif H
      refine seq_run1 (t_rsub (C := C_api_Event) tyE31 rfl rfl rfl h28) rfl ?_
      refine seq_run2 (t_clear (C := C_api_Event) (S_api_Event.mk 0 [] [] 0 []) tyU31 tyZ40 rfl rfl rfl rfl rfl h28) rfl ?_
      refine awp_seq ?_
      refine awp_plain hN rfl ?_
      refine seq_run0 (stp_move (.row _ _) rfl) ?_
      refine qd rfl ?_
      obtain ⟨h29, H⟩ := gif H
      refine seq_run3 (t_cut (C := C_api_Event) 1 tyE31 rfl (clr_len (S_api_Event.mk 0 [] [] 0 []) h28) rfl h29) rfl rfl ?_
      refine seq_run0 (stp_assign (.row _ _) rfl) ?_
      refine awp_ren 2 1 900 rfl rfl (by rw [List.length_map]; exact (cut_len h29)) rfl ?_
      refine awp_ret ?_
      replace H := retl H hq4
      cases H
      exact ⟨trivial, [(2, .row 900 _)], ⟨rfl, trivial⟩, ⟨rfl, trivial⟩, rfl, .inr (.inl ⟨2, rfl, congrArg (Slot.row 900) (by first | exact cut_len (by assumption) | (simp <;> omega))⟩)⟩
    ·replace H := iff_ h10 H
     refine awp_skip ?_
     refine awp_plain hN rfl ?_
     refine qd rfl ?_
     refine seq_run0 (stp_wrap _ rfl rfl (.inl ⟨rfl, rfl⟩)) ?_
     refine qe rfl ?_
     exact ⟨_, backl H, ⟨rfl, rfl, trivial⟩, ⟨rfl, trivial⟩⟩
   ·replace H := iff_ h5 H
    refine awp_exit ?_
    replace H := outl H hq4
    exact ⟨(), H, ⟨rfl, trivial⟩, ⟨rfl, trivial⟩⟩
  ·rintro ⟨⟩ H
   replace H : slices_Compact_L_api_Event_api_Event__J1 s1 = some r := H
   unfold slices_Compact_L_api_Event_api_Event__J1 at H
   refine awp_seq ?_
   refine awp_plain hN rfl ?_
   refine seq_run0 (stp_move (.row _ _) rfl) ?_
   refine seq_run0 (stp_assign (.row _ _) rfl) ?_
   refine awp_ren 2 0 900 rfl rfl (by rw [List.length_map]) rfl ?_
   refine awp_ret ?_
   cases H
   exact ⟨trivial, [(2, .row 900 _)], ⟨rfl, trivial⟩, ⟨rfl, trivial⟩, rfl, .inr (.inl ⟨2, rfl, rfl⟩)⟩
theorem k_kit_IsKey (s1 : Bs) (r : (Bool)) (H : m_kit_IsKey s1 = some r) : Fn Tryz.prog 40 [vstr s1] (resOf [vbool r]) := by
 refine ⟨by kernel_rfl, pure_of (us := [vbool r]) Tryz.func40 rfl rfl rfl rfl fun X hN => ?_⟩
 unfold m_kit_IsKey at H
 refine awp_seq ?_
 refine awp_plain hN rfl ?_
 refine qe rfl ?_
 refine awp_seq ?_
 refine awp_seq ?_
 refine awp_plain hN rfl ?_
 refine qe rfl ?_
 refine awp_block ?_
 obtain ⟨h4, H⟩ := gif H
 refine awp_forL (fun (i2 : Nat) (s : Unit) => [(0, .dat (vstr s1)), (3, .dat (vint (i2 : Int)))]) (fun (i2 : Nat) (s : Unit) => []) () H ⟨rfl, rfl, trivial⟩ trivial (fun _ _ => rfl) ?_ ?_
 ·rintro ⟨⟩ H
  replace H : kit_IsKey_E1 s1 = some r := H
  unfold kit_IsKey_E1 at H
  refine awp_seq ?_
  refine awp_seq ?_
  refine awp_plain hN rfl ?_
  refine qd rfl ?_
  refine qd rfl ?_
  refine seq_run0 (stp_len_str tyU9 rfl) ?_
  refine seq_run0 (stp_lss rfl rfl) ?_
  refine awp_cond _ rfl (fun h => (lt_t h).elim) (fun h => ?_)
  refine awp_exit ?_
  refine awp_seq ?_
  refine awp_plain hN rfl ?_
  refine qd rfl ?_
  refine seq_run0 (stp_sneq rfl rfl) ?_
  refine qd rfl ?_
  refine seq_aT rfl rfl (fun hc => stp_move (.dat _) rfl) ?_
  refine seq_aT rfl rfl (fun hc => stp_len_str tyU9 (cnd (c := (decide (s1 ≠ []))) hc)) ?_
  refine seq_aT rfl rfl (fun hc => stp_leq (cnd (c := (decide (s1 ≠ []))) hc) rfl) ?_
  refine seq_run0 (stp_pick_and rfl (fun hb => (cnd (c := (decide (s1 ≠ []))) hb)) rfl) ?_
  refine qe rfl ?_
  refine awp_ret ?_
  cases H
  exact ⟨trivial, .inl rfl, trivial⟩
 ·rintro i2 x5 ⟨⟩ q3 h6 h7 H hq3
  replace H : kit_IsKey_L1 i2 x5 = some q3 := H
  unfold kit_IsKey_L1 at H
  refine awp_seq ?_
  refine awp_seq ?_
  refine awp_plain hN rfl ?_
  refine qd rfl ?_
  refine qd rfl ?_
  refine seq_run0 (stp_len_str tyU9 rfl) ?_
  refine seq_run0 (stp_lss rfl rfl) ?_
  refine awp_cond _ rfl (fun h => ?_) (fun h => (lt_f h6 h).elim)
  refine awp_skip ?_
  refine awp_seq ?_
  refine awp_block ?_
  refine awp_seq ?_
  refine awp_plain hN rfl ?_
  refine qd rfl ?_
  refine qd rfl ?_
  refine seq_run0 (t_byte tyU9 rfl rfl h7) ?_
  refine qe rfl ?_
  refine awp_seq ?_
  refine awp_plain hN rfl ?_
  refine qd rfl ?_
  refine seq_run0 (stp_geq rfl rfl) ?_
  refine qd rfl ?_
  refine seq_aT rfl rfl (fun hc => stp_move (.dat _) rfl) ?_
  refine seq_aT rfl rfl (fun hc => stp_leq (cnd (c := (decide (97 ≤ (x5.toNat : Int)))) hc) rfl) ?_
  refine seq_run0 (stp_pick_and rfl (fun hb => (cnd (c := (decide (97 ≤ (x5.toNat : Int)))) hb)) rfl) ?_
  refine qd rfl ?_
  refine seq_aF rfl rfl (fun hc => stp_move (.dat _) rfl) ?_
  refine seq_aF rfl rfl (fun hc => stp_gtr (cnd (c := (!((decide (97 ≤ (x5.toNat : Int))) && (decide ((x5.toNat : Int) ≤ 122))))) hc) rfl) ?_
  refine seq_aF rfl rfl (fun hc => stp_move (.dat _) (cnd (c := (!((decide (97 ≤ (x5.toNat : Int))) && (decide ((x5.toNat : Int) ≤ 122))))) hc)) ?_
  refine seq_bT rfl rfl (fun hc => stp_move (.dat _) rfl) ?_
  refine seq_bT rfl rfl (fun hc => stp_geq (cnd (c := ((!((decide (97 ≤ (x5.toNat : Int))) && (decide ((x5.toNat : Int) ≤ 122)))) && (decide (0 < (i2 : Int))))) hc) rfl) ?_
  refine seq_bT rfl rfl (fun hc => stp_move (.dat _) (cnd (c := ((!((decide (97 ≤ (x5.toNat : Int))) && (decide ((x5.toNat : Int) ≤ 122)))) && (decide (0 < (i2 : Int))))) hc)) ?_
  refine seq_bT rfl rfl (fun hc => stp_move (.dat _) rfl) ?_
  refine seq_bT rfl rfl (fun hc => stp_leq (cnd (c := (((!((decide (97 ≤ (x5.toNat : Int))) && (decide ((x5.toNat : Int) ≤ 122)))) && (decide (0 < (i2 : Int)))) && (decide (48 ≤ (x5.toNat : Int))))) hc) rfl) ?_
  refine seq_bT rfl rfl (fun hc => stp_pick_and (cnd (c := ((!((decide (97 ≤ (x5.toNat : Int))) && (decide ((x5.toNat : Int) ≤ 122)))) && (decide (0 < (i2 : Int))))) hc) (fun hb => (cnd (c := (((!((decide (97 ≤ (x5.toNat : Int))) && (decide ((x5.toNat : Int) ≤ 122)))) && (decide (0 < (i2 : Int)))) && (decide (48 ≤ (x5.toNat : Int))))) (andI hc hb))) rfl) ?_
  refine seq_bT rfl rfl (fun hc => stp_move (.dat _) (cnd (c := ((!((decide (97 ≤ (x5.toNat : Int))) && (decide ((x5.toNat : Int) ≤ 122)))) && (decide (0 < (i2 : Int))))) hc)) ?_
  refine seq_bF rfl rfl (fun hc => stp_move (.dat _) rfl) ?_
  refine seq_bF rfl rfl (fun hc => stp_eql (cnd (c := (((!((decide (97 ≤ (x5.toNat : Int))) && (decide ((x5.toNat : Int) ≤ 122)))) && (decide (0 < (i2 : Int)))) && !((decide (48 ≤ (x5.toNat : Int))) && (decide ((x5.toNat : Int) ≤ 57))))) hc) rfl) ?_
  refine seq_bT rfl rfl (fun hc => stp_pick_or (cnd (c := ((!((decide (97 ≤ (x5.toNat : Int))) && (decide ((x5.toNat : Int) ≤ 122)))) && (decide (0 < (i2 : Int))))) hc) rfl (fun hb => (cnd (c := (((!((decide (97 ≤ (x5.toNat : Int))) && (decide ((x5.toNat : Int) ≤ 122)))) && (decide (0 < (i2 : Int)))) && !((decide (48 ≤ (x5.toNat : Int))) && (decide ((x5.toNat : Int) ≤ 57))))) (andI hc (notI hb))))) ?_
  refine seq_bT rfl rfl (fun hc => stp_move (.dat _) (cnd (c := ((!((decide (97 ≤ (x5.toNat : Int))) && (decide ((x5.toNat : Int) ≤ 122)))) && (decide (0 < (i2 : Int))))) hc)) ?_
  refine seq_bF rfl rfl (fun hc => stp_move (.dat _) rfl) ?_
  refine seq_bF rfl rfl (fun hc => stp_eql (cnd (c := (((!((decide (97 ≤ (x5.toNat : Int))) && (decide ((x5.toNat : Int) ≤ 122)))) && (decide (0 < (i2 : Int)))) && !(((decide (48 ≤ (x5.toNat : Int))) && (decide ((x5.toNat : Int) ≤ 57))) || (decide ((x5.toNat : Int) = 45))))) hc) rfl) ?_
  refine seq_bT rfl rfl (fun hc => stp_pick_or (cnd (c := ((!((decide (97 ≤ (x5.toNat : Int))) && (decide ((x5.toNat : Int) ≤ 122)))) && (decide (0 < (i2 : Int))))) hc) rfl (fun hb => (cnd (c := (((!((decide (97 ≤ (x5.toNat : Int))) && (decide ((x5.toNat : Int) ≤ 122)))) && (decide (0 < (i2 : Int)))) && !(((decide (48 ≤ (x5.toNat : Int))) && (decide ((x5.toNat : Int) ≤ 57))) || (decide ((x5.toNat : Int) = 45))))) (andI hc (notI hb))))) ?_
  refine seq_aF rfl rfl (fun hc => stp_pick_and (cnd (c := (!((decide (97 ≤ (x5.toNat : Int))) && (decide ((x5.toNat : Int) ≤ 122))))) hc) (fun hb => (cnd (c := ((!((decide (97 ≤ (x5.toNat : Int))) && (decide ((x5.toNat : Int) ≤ 122)))) && (decide (0 < (i2 : Int))))) (andI hc hb))) rfl) ?_
  refine seq_run0 (stp_pick_or rfl rfl (fun hb => (cnd (c := (!((decide (97 ≤ (x5.toNat : Int))) && (decide ((x5.toNat : Int) ≤ 122))))) (notI hb)))) ?_
  refine seq_run0 (stp_not rfl) ?_
  refine awp_cond _ rfl (fun h8 => ?_) (fun h8 => ?_)
  ·replace H := ift h8 H
   refine awp_seq ?_
   refine awp_plain hN rfl ?_
   refine qe rfl ?_
   refine awp_ret ?_
   replace H := retl H hq3
   cases H
   exact ⟨trivial, .inl rfl, trivial⟩
  ·replace H := iff_ h8 H
   refine awp_skip ?_
   refine awp_plain hN rfl ?_
   refine qd rfl ?_
   refine seq_run0 (stp_add rfl rfl (by omega)) ?_
   refine qe rfl ?_
   exact ⟨_, backl H, ⟨rfl, rfl, trivial⟩, trivial⟩
theorem k_token_isScope (s1 : Bs) (r : (Bool)) (H : m_token_isScope s1 = some r) : Fn Tryz.prog 123 [vstr s1] (resOf [vbool r]) := by
 refine ⟨by kernel_rfl, pure_of (us := [vbool r]) Tryz.func123 rfl rfl rfl rfl fun X hN => ?_⟩
 unfold m_token_isScope at H
 refine awp_seq ?_
 refine awp_plain hN rfl ?_
 refine qe rfl ?_
 refine awp_seq ?_
 refine awp_plain hN rfl ?_
 refine qd rfl ?_
 obtain ⟨r2, h3, H⟩ := bnd H
 refine seq_run0 (stp_call (k_strings_Split s1 [58] r2 h3) ⟨.inl rfl, .inl rfl, trivial⟩) ?_
 refine qe rfl ?_
 refine awp_seq ?_
 refine awp_seq ?_
 refine awp_plain hN rfl ?_
 refine qd rfl ?_
 refine seq_run0 (t_len tyU61 rfl) ?_
 refine qd rfl ?_
 refine awp_block ?_
 obtain ⟨h6, H⟩ := gif H
 refine awp_forL (fun (k4 : Nat) (s : Unit) => [(3, .dat (vlst (List.map C_string r2))), (8, .dat (vlst (List.map C_string r2))), (9, .dat (vint (r2.length : Int))), (10, .dat (vint (k4 : Int)))]) (fun (k4 : Nat) (s : Unit) => []) () H ⟨rfl, rfl, rfl, rfl, trivial⟩ trivial (fun _ _ => rfl) ?_ ?_
 ·rintro ⟨⟩ H
  replace H : token_isScope_E1 r2 = some r := H
  unfold token_isScope_E1 at H
  refine awp_seq ?_
  refine awp_plain hN rfl ?_
  refine seq_run0 (stp_lss rfl rfl) ?_
  refine awp_seq ?_
  refine awp_cond _ rfl (fun h => (lt_t h).elim) (fun h => ?_)
  refine awp_exit ?_
  refine awp_seq ?_
  refine awp_plain hN rfl ?_
  refine qd rfl ?_
  refine seq_run0 (t_len tyU61 rfl) ?_
  refine seq_run0 (stp_leq rfl rfl) ?_
  refine qe rfl ?_
  refine awp_ret ?_
  cases H
  exact ⟨trivial, .inl rfl, trivial⟩
 ·rintro k4 x7 ⟨⟩ q5 h8 h9 H hq5
  replace H : token_isScope_L1 r2 k4 x7 = some q5 := H
  unfold token_isScope_L1 at H
  refine awp_seq ?_
  refine awp_plain hN rfl ?_
  refine seq_run0 (stp_lss rfl rfl) ?_
  refine awp_seq ?_
  refine awp_cond _ rfl (fun h => ?_) (fun h => (lt_f h8 h).elim)
  refine awp_skip ?_
  refine awp_seq ?_
  refine awp_block ?_
  refine awp_seq ?_
  refine awp_plain hN rfl ?_
  refine qd rfl ?_
  refine seq_run0 (t_idx tyE61 (fun _ => rfl) rfl rfl h9) ?_
  refine seq_run0 (stp_loadE1 tyS9 rfl (map_at h9) rfl) ?_
  refine qe rfl ?_
  refine qe rfl ?_
  refine awp_seq ?_
  refine awp_plain hN rfl ?_
  refine qd rfl ?_
  obtain ⟨r10, h11, H⟩ := bnd H
  refine seq_run0 (stp_call (k_kit_IsKey x7 r10 h11) ⟨.inl rfl, trivial⟩) ?_
  refine seq_run0 (stp_not rfl) ?_
  refine qd rfl ?_
  refine seq_aT rfl rfl (fun hc => stp_move (.dat _) rfl) ?_
  refine seq_aT rfl rfl (fun hc => stp_seql (cnd (c := (!r10)) hc) rfl) ?_
  refine seq_aT rfl rfl (fun hc => stp_move (.dat _) (cnd (c := (!r10)) hc)) ?_
  refine seq_bT rfl rfl (fun hc => stp_move (.dat _) rfl) ?_
  refine seq_bT rfl rfl (fun hc => stp_move (.dat _) rfl) ?_
  refine seq_bT rfl rfl (fun hc => t_len tyU61 (cnd (c := ((!r10) && (decide (x7 = [42])))) hc)) ?_
  refine seq_bT rfl rfl (fun hc => stp_wrap _ (cnd (c := ((!r10) && (decide (x7 = [42])))) hc) rfl (.inr (.inl ⟨rfl, rfl⟩))) ?_
  refine seq_bT rfl rfl (fun hc => stp_eql (cnd (c := ((!r10) && (decide (x7 = [42])))) hc) (cnd (c := ((!r10) && (decide (x7 = [42])))) hc)) ?_
  refine seq_aT rfl rfl (fun hc => stp_pick_and (cnd (c := (!r10)) hc) (fun hb => (cnd (c := ((!r10) && (decide (x7 = [42])))) (andI hc hb))) rfl) ?_
  refine seq_aT rfl rfl (fun hc => stp_not (cnd (c := (!r10)) hc)) ?_
  refine seq_run0 (stp_pick_and rfl (fun hb => (cnd (c := (!r10)) hb)) rfl) ?_
  refine awp_cond _ rfl (fun h12 => ?_) (fun h12 => ?_)
  ·replace H := ift h12 H
   refine awp_seq ?_
   refine awp_plain hN rfl ?_
   refine qe rfl ?_
   refine awp_ret ?_
   replace H := retl H hq5
   cases H
   exact ⟨trivial, .inl rfl, trivial⟩
  ·replace H := iff_ h12 H
   refine awp_skip ?_
   refine awp_plain hN rfl ?_
   refine seq_run0 (stp_add rfl rfl (by omega)) ?_
   refine qd rfl ?_
   exact ⟨_, backl H, ⟨rfl, rfl, rfl, rfl, trivial⟩, trivial⟩
theorem k_token_CheckScopes (l1 : (List Bs)) (r : (Int)) (H : m_token_CheckScopes l1 = some r) : Fn Tryz.prog 97 [vlst (List.map C_string l1)] (resOf [vint r]) := by
 refine ⟨by kernel_rfl, pure_of (us := [vint r]) Tryz.func97 rfl rfl rfl rfl fun X hN => ?_⟩
 unfold m_token_CheckScopes at H
 refine awp_seq ?_
 refine awp_plain hN rfl ?_
 refine qe rfl ?_
 refine awp_seq ?_
 refine awp_seq ?_
 refine awp_plain hN rfl ?_
 refine qd rfl ?_
 refine seq_run0 (t_len tyU61 rfl) ?_
 refine seq_run0 (stp_gtr rfl rfl) ?_
 refine awp_cond _ rfl (fun h2 => ?_) (fun h2 => ?_)
 ·replace H := ift h2 H
  refine awp_seq ?_
  refine awp_plain hN rfl ?_
  refine qe rfl ?_
  refine awp_ret ?_
  cases H
  exact ⟨trivial, .inl rfl, trivial⟩
 ·replace H := iff_ h2 H
  refine awp_skip ?_
  refine awp_seq ?_
  refine awp_seq ?_
  refine awp_plain hN rfl ?_
  refine qd rfl ?_
  refine seq_run0 (t_len tyU61 rfl) ?_
  refine qd rfl ?_
  refine awp_block ?_
  obtain ⟨h5, H⟩ := gif H
  refine awp_forL (fun (k3 : Nat) (s : Unit) => [(8, .dat (vlst (List.map C_string l1))), (9, .dat (vint (l1.length : Int))), (10, .dat (vint (k3 : Int)))]) (fun (k3 : Nat) (s : Unit) => []) () H ⟨rfl, rfl, rfl, trivial⟩ trivial (fun _ _ => rfl) ?_ ?_
  ·rintro ⟨⟩ H
   replace H : token_CheckScopes_E1 = some r := H
   unfold token_CheckScopes_E1 at H
   refine awp_seq ?_
   refine awp_plain hN rfl ?_
   refine seq_run0 (stp_lss rfl rfl) ?_
   refine awp_seq ?_
   refine awp_cond _ rfl (fun h => (lt_t h).elim) (fun h => ?_)
   refine awp_exit ?_
   refine awp_seq ?_
   refine awp_plain hN rfl ?_
   refine qe rfl ?_
   refine awp_ret ?_
   cases H
   exact ⟨trivial, .inl rfl, trivial⟩
  ·rintro k3 x6 ⟨⟩ q4 h7 h8 H hq4
   replace H : token_CheckScopes_L1 k3 x6 = some q4 := H
   unfold token_CheckScopes_L1 at H
   refine awp_seq ?_
   refine awp_plain hN rfl ?_
   refine seq_run0 (stp_lss rfl rfl) ?_
   refine awp_seq ?_
   refine awp_cond _ rfl (fun h => ?_) (fun h => (lt_f h7 h).elim)
   refine awp_skip ?_
   refine awp_seq ?_
   refine awp_block ?_
   refine awp_seq ?_
   refine awp_plain hN rfl ?_
   refine seq_run0 (t_idx tyE61 (fun _ => rfl) rfl rfl h8) ?_
   refine seq_run0 (stp_loadE1 tyS9 rfl (map_at h8) rfl) ?_
   refine qe rfl ?_
   refine awp_seq ?_
   refine awp_plain hN rfl ?_
   refine qd rfl ?_
   obtain ⟨r9, h10, H⟩ := bnd H
   refine seq_run0 (stp_call (k_token_isScope x6 r9 h10) ⟨.inl rfl, trivial⟩) ?_
   refine seq_run0 (stp_not rfl) ?_
   refine awp_cond _ rfl (fun h11 => ?_) (fun h11 => ?_)
   ·replace H := ift h11 H
    refine awp_seq ?_
    refine awp_plain hN rfl ?_
    refine qe rfl ?_
    refine awp_ret ?_
    replace H := retl H hq4
    cases H
    exact ⟨trivial, .inl rfl, trivial⟩
   ·replace H := iff_ h11 H
    refine awp_skip ?_
    refine awp_plain hN rfl ?_
    refine seq_run0 (stp_add rfl rfl (by omega)) ?_
    refine qd rfl ?_
    exact ⟨_, backl H, ⟨rfl, rfl, rfl, trivial⟩, trivial⟩
theorem k_portal_productsFault (l1 : (List S_api_Product)) (r : (Int)) (H : m_portal_productsFault l1 = some r) : Fn Tryz.prog 69 [vlst (List.map C_api_Product l1)] (resOf [vint r]) := by
 refine ⟨by kernel_rfl, pure_of (us := [vint r]) Tryz.func69 rfl rfl rfl rfl fun X hN => ?_⟩
 unfold m_portal_productsFault at H
 refine awp_seq ?_
 refine awp_plain hN rfl ?_
 refine qe rfl ?_
 refine awp_seq ?_
 refine awp_seq ?_
 refine awp_plain hN rfl ?_
 refine qd rfl ?_
 refine seq_run0 (t_len tyU26 rfl) ?_
 refine seq_run0 (stp_gtr rfl rfl) ?_
 refine awp_cond _ rfl (fun h2 => ?_) (fun h2 => ?_)
 ·replace H := ift h2 H
  refine awp_seq ?_
  refine awp_plain hN rfl ?_
  refine qe rfl ?_
  refine awp_ret ?_
  cases H
  exact ⟨trivial, .inl rfl, trivial⟩
 ·replace H := iff_ h2 H
  refine awp_skip ?_
  refine awp_seq ?_
  refine awp_seq ?_
  refine awp_plain hN rfl ?_
  refine qd rfl ?_
  refine seq_run0 (t_len tyU26 rfl) ?_
  refine qd rfl ?_
  refine awp_block ?_
  obtain ⟨h5, H⟩ := gif H
  refine awp_forL (fun (k3 : Nat) (s : Unit) => [(0, .dat (vlst (List.map C_api_Product l1))), (9, .dat (vlst (List.map C_api_Product l1))), (10, .dat (vint (l1.length : Int))), (11, .dat (vint (k3 : Int)))]) (fun (k3 : Nat) (s : Unit) => []) () H ⟨rfl, rfl, rfl, rfl, trivial⟩ trivial (fun _ _ => rfl) ?_ ?_
  ·rintro ⟨⟩ H
   replace H : portal_productsFault_E1 = some r := H
   unfold portal_productsFault_E1 at H
   refine awp_seq ?_
   refine awp_plain hN rfl ?_
   refine seq_run0 (stp_lss rfl rfl) ?_
   refine awp_seq ?_
   refine awp_cond _ rfl (fun h => (lt_t h).elim) (fun h => ?_)
   refine awp_exit ?_
   refine awp_seq ?_
   refine awp_plain hN rfl ?_
   refine qe rfl ?_
   refine awp_ret ?_
   cases H
   exact ⟨trivial, .inl rfl, trivial⟩
  ·rintro k3 x6 ⟨⟩ q4 h7 h8 H hq4
   replace H : portal_productsFault_L1 l1 k3 x6 = some q4 := H
   unfold portal_productsFault_L1 at H
   refine awp_seq ?_
   refine awp_plain hN rfl ?_
   refine seq_run0 (stp_lss rfl rfl) ?_
   refine awp_seq ?_
   refine awp_cond _ rfl (fun h => ?_) (fun h => (lt_f h7 h).elim)
   refine awp_skip ?_
   refine awp_seq ?_
   refine awp_block ?_
   refine awp_seq ?_
   refine awp_plain hN rfl ?_
   refine qd rfl ?_
   refine seq_run0 (t_idx tyE26 (fun _ => rfl) rfl rfl h8) ?_
   refine seq_run0 (stp_loadEA tyS89 rfl (map_at h8) rfl) ?_
   refine seq_run2 (stp_alloc 1 tyZ89 rfl) rfl ?_
   refine qe rfl ?_
   refine seq_run2 (stp_storeW tyS89 rfl rfl rfl rfl) rfl ?_
   refine awp_seq ?_
   refine awp_seq ?_
   refine awp_plain hN rfl ?_
   refine seq_run0 (stp_fldP tyF89_0 rfl) ?_
   refine seq_run1 (stp_load1 tyS9 rfl rfl) rfl ?_
   obtain ⟨r9, h10, H⟩ := bnd H
   refine seq_run0 (stp_call (k_kit_IsKey x6.Key r9 h10) ⟨.inl rfl, trivial⟩) ?_
   refine seq_run0 (stp_not rfl) ?_
   refine awp_cond _ rfl (fun h11 => ?_) (fun h11 => ?_)
   ·replace H := ift h11 H
    refine awp_seq ?_
    refine awp_plain hN rfl ?_
    refine qe rfl ?_
    refine awp_ret ?_
    replace H := retl H hq4
    cases H
    exact ⟨trivial, .inl rfl, trivial⟩
   ·replace H := iff_ h11 H
    refine awp_skip ?_
    refine awp_seq ?_
    refine awp_joinE (ι := Bool) (fun i => [(0, .dat (vlst (List.map C_api_Product l1))), (4, .ptr 1 0), (9, .dat (vlst (List.map C_api_Product l1))), (10, .dat (vint (l1.length : Int))), (11, .dat (vint (k3 : Int))), (32, .dat (vbool i))]) (fun i => [(1, .box none 89 [.dat (vstr x6.Key), .dat (vlst (List.map C_string x6.Scopes))])]) (fun i => portal_productsFault_J2 x6 i = some q4) (fun i => rfl) ?_ ?_
    ·skip
     refine awp_draw mixed hN rfl rfl ?_
     refine qd rfl ?_
     refine seq_run0 (stp_gtr rfl rfl) ?_
     refine qd rfl ?_
     refine seq_split (j := 2) rfl rfl (fun h12 => ?_) (fun h12 => ?_) rfl
     ·have h13 := un1 h12
      replace H := ift h13 H
      refine seq_g0 rfl rfl h12 (stp_fldP tyF89_0 rfl) ?_
      refine seq_g1 rfl rfl h12 (stp_load1 tyS9 rfl rfl) rfl ?_
      refine seq_g0 rfl rfl h12 (stp_move (.dat _) rfl) ?_
      refine seq_g0 rfl rfl h12 (stp_move (.dat _) rfl) ?_
      refine seq_g0 rfl rfl h12 (stp_sub rfl rfl (by omega)) ?_
      obtain ⟨x14, h15, H⟩ := bnd H
      refine seq_g0 rfl rfl h12 (t_idxI tyE26 (fun _ => rfl) rfl rfl h15) ?_
      refine seq_g0 rfl rfl h12 (stp_fldE tyF89_0 rfl) ?_
      refine seq_g0 rfl rfl h12 (stp_loadE1 tyS9 rfl (map_at (at_some h15).2) rfl) ?_
      refine seq_g0 rfl rfl h12 (stp_sleq rfl rfl) ?_
      refine seq_run0 (stp_pick_t rfl (bTT h13) rfl) ?_
      refine ⟨rfl, ?_⟩
      exact ⟨(Op.bytesLess x6.Key x14.Key || x6.Key == x14.Key), H, ⟨rfl, rfl, rfl, rfl, rfl, rfl, trivial⟩, ⟨rfl, trivial⟩⟩
     ·have h16 := un2 h12
      replace H := iff_ h16 H
      refine seq_skip rfl rfl h12 ?_
      refine seq_skip rfl rfl h12 ?_
      refine seq_skip rfl rfl h12 ?_
      refine seq_skip rfl rfl h12 ?_
      refine seq_skip rfl rfl h12 ?_
      refine seq_skip rfl rfl h12 ?_
      refine seq_skip rfl rfl h12 ?_
      refine seq_skip rfl rfl h12 ?_
      refine seq_skip rfl rfl h12 ?_
      refine seq_run0 (stp_pick_f rfl (bFF h16) rfl) ?_
      refine ⟨rfl, ?_⟩
      exact ⟨false, H, ⟨rfl, rfl, rfl, rfl, rfl, rfl, trivial⟩, ⟨rfl, trivial⟩⟩
    ·rintro v17 H
     replace H : portal_productsFault_J2 x6 v17 = some q4 := H
     unfold portal_productsFault_J2 at H
     refine awp_cond _ rfl (fun h18 => ?_) (fun h18 => ?_)
     ·replace H := ift h18 H
      refine awp_seq ?_
      refine awp_plain hN rfl ?_
      refine qe rfl ?_
      refine awp_ret ?_
      replace H := retl H hq4
      cases H
      exact ⟨trivial, .inl rfl, trivial⟩
     ·replace H := iff_ h18 H
      refine awp_skip ?_
      refine awp_seq ?_
      refine awp_plain hN rfl ?_
      refine seq_run0 (stp_fldP tyF89_1 rfl) ?_
      refine seq_run1 (stp_load1 tyS61 rfl rfl) rfl ?_
      obtain ⟨r19, h20, H⟩ := bnd H
      refine seq_run0 (stp_call (k_token_CheckScopes x6.Scopes r19 h20) ⟨.inl rfl, trivial⟩) ?_
      refine qe rfl ?_
      refine awp_seq ?_
      refine awp_plain hN rfl ?_
      refine qd rfl ?_
      refine seq_run0 (stp_neq rfl rfl) ?_
      refine awp_cond _ rfl (fun h21 => ?_) (fun h21 => ?_)
      ·replace H := ift h21 H
       refine awp_seq ?_
       refine awp_plain hN rfl ?_
       refine qd rfl ?_
       refine qe rfl ?_
       refine awp_ret ?_
       replace H := retl H hq4
       cases H
       exact ⟨trivial, .inl rfl, trivial⟩
      ·replace H := iff_ h21 H
       refine awp_skip ?_
       refine awp_plain hN rfl ?_
       refine seq_run0 (stp_add rfl rfl (by omega)) ?_
       refine qd rfl ?_
       exact ⟨_, backl H, ⟨rfl, rfl, rfl, rfl, trivial⟩, trivial⟩
theorem k_slices_BinarySearchFunc_L_api_Product_api_Product_string_ (x1 : (List S_api_Product)) (target2 : Bs) (p2 : S_api_Product → Bs → Option (Int)) (fv2 : Nat) (us2 : List V) (hp2 : ∀ a0 a1 r, p2 a0 a1 = some r → Fn Tryz.prog fv2 ([vagg (C_api_Product a0), vstr a1] ++ us2) (resOf [vint r])) (r : (Int × Bool)) (H : m_slices_BinarySearchFunc_L_api_Product_api_Product_string_ x1 target2 p2 = some r) : Fn Tryz.prog 101 [vlst (List.map C_api_Product x1), vstr target2, vfn fv2 us2] (resOf [vint r.1, vbool r.2]) := by
 refine ⟨by kernel_rfl, pure_of (us := [vint r.1, vbool r.2]) Tryz.func101 rfl rfl rfl rfl fun X hN => ?_⟩
 unfold m_slices_BinarySearchFunc_L_api_Product_api_Product_string_ at H
 refine awp_seq ?_
 refine awp_plain hN rfl ?_
 refine qe rfl ?_
 refine qe rfl ?_
 refine awp_seq ?_
 refine awp_plain hN rfl ?_
 refine qd rfl ?_
 refine seq_run0 (t_len tyU26 rfl) ?_
 refine qe rfl ?_
 refine awp_seq ?_
 refine awp_plain hN rfl ?_
 refine qd rfl ?_
 refine qe rfl ?_
 refine qe rfl ?_
 refine awp_joinE (ι := Int) (fun i => [(0, .dat (vlst (List.map C_api_Product x1))), (1, .dat (vstr target2)), (2, .dat (vfn fv2 us2)), (8, .dat (vint (x1.length : Int))), (9, .dat (vint i))]) (fun i => []) (fun i => slices_BinarySearchFunc_L_api_Product_api_Product_string__J1 x1 target2 p2 i = some r) (fun i => rfl) ?_ ?_
 ·skip
  refine awp_block ?_
  refine awp_iter (fun (s : Int × Int) => [(0, .dat (vlst (List.map C_api_Product x1))), (1, .dat (vstr target2)), (2, .dat (vfn fv2 us2)), (8, .dat (vint (x1.length : Int))), (9, .dat (vint s.1)), (10, .dat (vint s.2))]) (fun (s : Int × Int) => []) (0, (x1.length : Int)) H ⟨rfl, rfl, rfl, rfl, rfl, rfl, trivial⟩ trivial (fun _ => rfl) ?_
  rintro ⟨i3, j4⟩ q5 H hq5
  replace H : slices_BinarySearchFunc_L_api_Product_api_Product_string__L2 x1 target2 p2 i3 j4 = some q5 := H
  unfold slices_BinarySearchFunc_L_api_Product_api_Product_string__L2 at H
  refine awp_seq ?_
  refine awp_seq ?_
  refine awp_plain hN rfl ?_
  refine qd rfl ?_
  refine qd rfl ?_
  refine seq_run0 (stp_lss rfl rfl) ?_
  refine awp_cond _ rfl (fun h6 => ?_) (fun h6 => ?_)
  ·replace H := ift h6 H
   refine awp_skip ?_
   refine awp_block ?_
   refine awp_seq ?_
   refine awp_plain hN rfl ?_
   refine qd rfl ?_
   refine qd rfl ?_
   refine seq_run0 (stp_wrap _ rfl rfl (.inl ⟨rfl, rfl⟩)) ?_
   refine seq_run0 (stp_conv tyU3 tyU130 rfl) ?_
   refine seq_run0 (stp_dat (stp_shr rfl rfl (by decide)) rfl) ?_
   refine seq_run0 (stp_conv tyU130 tyU3 rfl) ?_
   refine qe rfl ?_
   refine awp_seq ?_
   refine awp_plain hN rfl ?_
   refine qd rfl ?_
   refine qd rfl ?_
   refine qd rfl ?_
   obtain ⟨x7, h8, H⟩ := bnd H
   refine seq_run0 (t_idxI tyE26 (fun _ => rfl) rfl rfl h8) ?_
   refine seq_run0 (stp_loadEA tyS89 rfl (map_at (at_some h8).2) rfl) ?_
   refine qd rfl ?_
   obtain ⟨r9, h10, H⟩ := bnd H
   refine seq_run0 (stp_callv (hp2 x7 target2 r9 h10) rfl ⟨.inl rfl, .inl rfl, trivial⟩) ?_
   refine seq_run0 (stp_lss rfl rfl) ?_
   refine awp_cond _ rfl (fun h11 => ?_) (fun h11 => ?_)
   ·replace H := ift h11 H
    refine awp_plain hN rfl ?_
    refine qd rfl ?_
    refine seq_run0 (stp_wrap _ rfl rfl (.inl ⟨rfl, rfl⟩)) ?_
    refine qe rfl ?_
    exact ⟨_, backl H, ⟨rfl, rfl, rfl, rfl, rfl, rfl, trivial⟩, trivial⟩
   ·replace H := iff_ h11 H
    refine awp_plain hN rfl ?_
    refine qd rfl ?_
    refine qe rfl ?_
    exact ⟨_, backl H, ⟨rfl, rfl, rfl, rfl, rfl, rfl, trivial⟩, trivial⟩
  ·replace H := iff_ h6 H
   refine awp_exit ?_
   replace H := outl H hq5
   exact ⟨i3, H, ⟨rfl, rfl, rfl, rfl, rfl, trivial⟩, trivial⟩
 ·rintro i12 H
  replace H : slices_BinarySearchFunc_L_api_Product_api_Product_string__J1 x1 target2 p2 i12 = some r := H
  unfold slices_BinarySearchFunc_L_api_Product_api_Product_string__J1 at H
  refine awp_joinE (ι := Bool) (fun i => [(6, .dat (vint i12)), (7, .dat (vbool i))]) (fun i => []) (fun i => slices_BinarySearchFunc_L_api_Product_api_Product_string__J3 i12 i = some r) (fun i => rfl) ?_ ?_
  ·skip
   refine awp_plain hN rfl ?_
   refine qd rfl ?_
   refine qd rfl ?_
   refine qd rfl ?_
   refine seq_run0 (stp_lss rfl rfl) ?_
   refine qd rfl ?_
   refine seq_split (j := 4) rfl rfl (fun h13 => ?_) (fun h13 => ?_) rfl
   ·have h14 := un1 h13
    replace H := ift h14 H
    refine seq_g0 rfl rfl h13 (stp_move (.dat _) rfl) ?_
    refine seq_g0 rfl rfl h13 (stp_move (.dat _) rfl) ?_
    refine seq_g0 rfl rfl h13 (stp_move (.dat _) rfl) ?_
    obtain ⟨x15, h16, H⟩ := bnd H
    refine seq_g0 rfl rfl h13 (t_idxI tyE26 (fun _ => rfl) rfl rfl h16) ?_
    refine seq_g0 rfl rfl h13 (stp_loadEA tyS89 rfl (map_at (at_some h16).2) rfl) ?_
    refine seq_g0 rfl rfl h13 (stp_move (.dat _) rfl) ?_
    obtain ⟨r17, h18, H⟩ := bnd H
    refine seq_g0 rfl rfl h13 (stp_callv (hp2 x15 target2 r17 h18) rfl ⟨.inl rfl, .inl rfl, trivial⟩) ?_
    refine seq_g0 rfl rfl h13 (stp_eql rfl rfl) ?_
    refine seq_run0 (stp_pick_t rfl (bTT h14) rfl) ?_
    refine qe rfl ?_
    refine qe rfl ?_
    exact ⟨decide (r17 = 0), H, ⟨rfl, rfl, trivial⟩, trivial⟩
   ·have h19 := un2 h13
    replace H := iff_ h19 H
    refine seq_skip rfl rfl h13 ?_
    refine seq_skip rfl rfl h13 ?_
    refine seq_skip rfl rfl h13 ?_
    refine seq_skip rfl rfl h13 ?_
    refine seq_skip rfl rfl h13 ?_
    refine seq_skip rfl rfl h13 ?_
    refine seq_skip rfl rfl h13 ?_
    refine seq_skip rfl rfl h13 ?_
    refine seq_run0 (stp_pick_f rfl (bFF h19) rfl) ?_
    refine qe rfl ?_
    refine qe rfl ?_
    exact ⟨false, H, ⟨rfl, rfl, trivial⟩, trivial⟩
  ·rintro v20 H
   replace H : slices_BinarySearchFunc_L_api_Product_api_Product_string__J3 i12 v20 = some r := H
   unfold slices_BinarySearchFunc_L_api_Product_api_Product_string__J3 at H
   refine awp_ret ?_
   cases H
   exact ⟨trivial, .inl rfl, .inl rfl, trivial⟩
theorem k_portal_productAt_1 (p1 : S_api_Product) (k2 : Bs) (r : (Int)) (H : m_portal_productAt_1 p1 k2 = some r) : Fn Tryz.prog 102 [vagg (C_api_Product p1), vstr k2] (resOf [vint r]) := by
 refine ⟨by kernel_rfl, pure_of (us := [vint r]) Tryz.func102 rfl rfl rfl rfl fun X hN => ?_⟩
 unfold m_portal_productAt_1 at H
 refine awp_seq ?_
 refine awp_plain hN rfl ?_
 refine seq_run2 (stp_boxA 1 rfl) rfl ?_
 refine qe rfl ?_
 refine awp_seq ?_
 refine awp_plain hN rfl ?_
 refine seq_run0 (stp_fldP tyF89_0 rfl) ?_
 refine seq_run1 (stp_load1 tyS9 rfl rfl) rfl ?_
 refine qd rfl ?_
 obtain ⟨r3, h4, H⟩ := bnd H
 refine seq_run0 (stp_call (k_strings_Compare p1.Key k2 r3 h4) ⟨.inl rfl, .inl rfl, trivial⟩) ?_
 refine qe rfl ?_
 refine awp_ret ?_
 cases H
 exact ⟨trivial, .inl rfl, trivial⟩
theorem k_portal_productAt (c1 : S_api_Catalog) (key2 : Bs) (r : (Int × Bool)) (H : m_portal_productAt c1 key2 = some r) : Fn Tryz.prog 73 [vagg (C_api_Catalog c1), vstr key2] (resOf [vint r.1, vbool r.2]) := by
 refine ⟨by kernel_rfl, pure_of (us := [vint r.1, vbool r.2]) Tryz.func73 rfl rfl rfl rfl fun X hN => ?_⟩
 unfold m_portal_productAt at H
 refine awp_seq ?_
 refine awp_plain hN rfl ?_
 refine seq_run2 (stp_boxA 1 rfl) rfl ?_
 refine qe rfl ?_
 refine qe rfl ?_
 refine awp_seq ?_
 refine awp_plain hN rfl ?_
 refine seq_run0 (stp_fldP tyF29_0 rfl) ?_
 refine seq_run1 (stp_load1 tyS26 rfl rfl) rfl ?_
 refine qd rfl ?_
 obtain ⟨r3, h4, H⟩ := bnd H
 refine seq_run0 (stp_callW (k_slices_BinarySearchFunc_L_api_Product_api_Product_string_ c1.Products key2 (fun (a0 : S_api_Product) (a1 : Bs) => m_portal_productAt_1 a0 a1) 102 [] (fun a0 a1 r h => k_portal_productAt_1 a0 a1 r h) r3 h4) ⟨.inl (.inl rfl), .inl (.inl rfl), .inr ⟨_, rfl, rfl⟩, trivial⟩) ?_
 refine seq_run0 (stp_ext rfl rfl) ?_
 refine seq_run0 (stp_ext rfl rfl) ?_
 refine qe rfl ?_
 refine qe rfl ?_
 refine awp_ret ?_
 cases H
 exact ⟨trivial, .inl rfl, .inl rfl, trivial⟩
theorem k_kit_Outside (n1 : Int) (low2 : Int) (high3 : Int) (r : (Bool)) (H : m_kit_Outside n1 low2 high3 = some r) : Fn Tryz.prog 74 [vint n1, vint low2, vint high3] (resOf [vbool r]) := by
 refine ⟨by kernel_rfl, pure_of (us := [vbool r]) Tryz.func74 rfl rfl rfl rfl fun X hN => ?_⟩
 unfold m_kit_Outside at H
 refine awp_seq ?_
 refine awp_plain hN rfl ?_
 refine qe rfl ?_
 refine awp_seq ?_
 refine awp_plain hN rfl ?_
 refine qd rfl ?_
 refine qd rfl ?_
 refine seq_run0 (stp_lss rfl rfl) ?_
 refine qd rfl ?_
 refine seq_aF rfl rfl (fun hc => stp_move (.dat _) rfl) ?_
 refine seq_aF rfl rfl (fun hc => stp_move (.dat _) rfl) ?_
 refine seq_aF rfl rfl (fun hc => stp_gtr (cnd (c := (!(decide (n1 < low2)))) hc) (cnd (c := (!(decide (n1 < low2)))) hc)) ?_
 refine seq_run0 (stp_pick_or rfl rfl (fun hb => (cnd (c := (!(decide (n1 < low2)))) (notI hb)))) ?_
 refine qe rfl ?_
 refine awp_ret ?_
 cases H
 exact ⟨trivial, .inl rfl, trivial⟩
theorem k_portal_tiersFault (l1 : (List S_api_Tier)) (r : (Int)) (H : m_portal_tiersFault l1 = some r) : Fn Tryz.prog 98 [vlst (List.map C_api_Tier l1)] (resOf [vint r]) := by
 refine ⟨by kernel_rfl, pure_of (us := [vint r]) Tryz.func98 rfl rfl rfl rfl fun X hN => ?_⟩
 unfold m_portal_tiersFault at H
 refine awp_seq ?_
 refine awp_plain hN rfl ?_
 refine qe rfl ?_
 refine awp_seq ?_
 refine awp_seq ?_
 refine awp_plain hN rfl ?_
 refine qd rfl ?_
 refine seq_run0 (t_len tyU62 rfl) ?_
 refine seq_run0 (stp_gtr rfl rfl) ?_
 refine awp_cond _ rfl (fun h2 => ?_) (fun h2 => ?_)
 ·replace H := ift h2 H
  refine awp_seq ?_
  refine awp_plain hN rfl ?_
  refine qe rfl ?_
  refine awp_ret ?_
  cases H
  exact ⟨trivial, .inl rfl, trivial⟩
 ·replace H := iff_ h2 H
  refine awp_skip ?_
  refine awp_seq ?_
  refine awp_seq ?_
  refine awp_plain hN rfl ?_
  refine qd rfl ?_
  refine seq_run0 (t_len tyU62 rfl) ?_
  refine qd rfl ?_
  refine awp_block ?_
  obtain ⟨h5, H⟩ := gif H
  refine awp_forL (fun (k3 : Nat) (s : Unit) => [(0, .dat (vlst (List.map C_api_Tier l1))), (8, .dat (vlst (List.map C_api_Tier l1))), (9, .dat (vint (l1.length : Int))), (10, .dat (vint (k3 : Int)))]) (fun (k3 : Nat) (s : Unit) => []) () H ⟨rfl, rfl, rfl, rfl, trivial⟩ trivial (fun _ _ => rfl) ?_ ?_
  ·rintro ⟨⟩ H
   replace H : portal_tiersFault_E1 l1 = some r := H
   unfold portal_tiersFault_E1 at H
   refine awp_seq ?_
   refine awp_plain hN rfl ?_
   refine seq_run0 (stp_lss rfl rfl) ?_
   refine awp_seq ?_
   refine awp_cond _ rfl (fun h => (lt_t h).elim) (fun h => ?_)
   refine awp_exit ?_
   refine awp_seq ?_
   refine awp_joinE (ι := Bool) (fun i => [(46, .dat (vbool i))]) (fun i => []) (fun i => portal_tiersFault_J2 i = some r) (fun i => rfl) ?_ ?_
   ·skip
    refine awp_plain hN rfl ?_
    refine qd rfl ?_
    refine seq_run0 (t_len tyU62 rfl) ?_
    refine seq_run0 (stp_gtr rfl rfl) ?_
    refine qd rfl ?_
    refine seq_split (j := 3) rfl rfl (fun h7 => ?_) (fun h7 => ?_) rfl
    ·have h8 := un1 h7
     replace H := ift h8 H
     refine seq_g0 rfl rfl h7 (stp_move (.dat _) rfl) ?_
     obtain ⟨x9, h10, H⟩ := bnd H
     refine seq_g0 rfl rfl h7 (t_idx tyE62 (fun _ => rfl) rfl rfl h10) ?_
     refine seq_g0 rfl rfl h7 (stp_fldE tyF92_0 rfl) ?_
     refine seq_g0 rfl rfl h7 (stp_loadE1 tyS3 rfl (map_at h10) rfl) ?_
     refine seq_g0 rfl rfl h7 (stp_neq rfl rfl) ?_
     refine seq_run0 (stp_pick_t rfl (bTT h8) rfl) ?_
     exact ⟨decide (x9.From ≠ 1), H, ⟨rfl, trivial⟩, trivial⟩
    ·have h11 := un2 h7
     replace H := iff_ h11 H
     refine seq_skip rfl rfl h7 ?_
     refine seq_skip rfl rfl h7 ?_
     refine seq_skip rfl rfl h7 ?_
     refine seq_skip rfl rfl h7 ?_
     refine seq_skip rfl rfl h7 ?_
     refine seq_run0 (stp_pick_f rfl (bFF h11) rfl) ?_
     exact ⟨false, H, ⟨rfl, trivial⟩, trivial⟩
   ·rintro v12 H
    replace H : portal_tiersFault_J2 v12 = some r := H
    unfold portal_tiersFault_J2 at H
    refine awp_cond _ rfl (fun h13 => ?_) (fun h13 => ?_)
    ·replace H := ift h13 H
     refine awp_seq ?_
     refine awp_plain hN rfl ?_
     refine qe rfl ?_
     refine awp_ret ?_
     cases H
     exact ⟨trivial, .inl rfl, trivial⟩
    ·replace H := iff_ h13 H
     refine awp_skip ?_
     refine awp_seq ?_
     refine awp_plain hN rfl ?_
     refine qe rfl ?_
     refine awp_ret ?_
     cases H
     exact ⟨trivial, .inl rfl, trivial⟩
  ·rintro k3 x6 ⟨⟩ q4 h14 h15 H hq4
   replace H : portal_tiersFault_L1 l1 k3 x6 = some q4 := H
   unfold portal_tiersFault_L1 at H
   refine awp_seq ?_
   refine awp_plain hN rfl ?_
   refine seq_run0 (stp_lss rfl rfl) ?_
   refine awp_seq ?_
   refine awp_cond _ rfl (fun h => ?_) (fun h => (lt_f h14 h).elim)
   refine awp_skip ?_
   refine awp_seq ?_
   refine awp_block ?_
   refine awp_seq ?_
   refine awp_plain hN rfl ?_
   refine qd rfl ?_
   refine seq_run0 (t_idx tyE62 (fun _ => rfl) rfl rfl h15) ?_
   refine seq_run0 (stp_loadEA tyS92 rfl (map_at h15) rfl) ?_
   refine seq_run2 (stp_alloc 1 tyZ92 rfl) rfl ?_
   refine qe rfl ?_
   refine seq_run2 (stp_storeW tyS92 rfl rfl rfl rfl) rfl ?_
   refine awp_seq ?_
   refine awp_joinE (ι := Bool) (fun i => [(0, .dat (vlst (List.map C_api_Tier l1))), (3, .dat (vint (k3 : Int))), (4, .ptr 1 0), (8, .dat (vlst (List.map C_api_Tier l1))), (9, .dat (vint (l1.length : Int))), (10, .dat (vint (k3 : Int))), (22, .dat (vbool i))]) (fun i => [(1, .box none 92 [.dat (vint x6.From), .dat (vint x6.Cents)])]) (fun i => portal_tiersFault_J3 l1 k3 x6 i = some q4) (fun i => rfl) ?_ ?_
   ·skip
    refine awp_plain hN rfl ?_
    refine seq_run0 (stp_fldP tyF92_0 rfl) ?_
    refine seq_run1 (stp_load1 tyS3 rfl rfl) rfl ?_
    obtain ⟨r16, h17, H⟩ := bnd H
    refine seq_run0 (stp_call (k_kit_Outside x6.From 1 1000000000000 r16 h17) ⟨.inl rfl, .inl rfl, .inl rfl, trivial⟩) ?_
    refine qd rfl ?_
    refine seq_split (j := 3) rfl rfl (fun h18 => ?_) (fun h18 => ?_) rfl
    ·have h19 := un3 h18
     replace H := iff_ h19 H
     refine seq_g0 rfl rfl h18 (stp_fldP tyF92_1 rfl) ?_
     refine seq_g1 rfl rfl h18 (stp_load1 tyS3 rfl rfl) rfl ?_
     obtain ⟨r20, h21, H⟩ := bnd H
     refine seq_g0 rfl rfl h18 (stp_call (k_kit_Outside x6.Cents 0 1000000 r20 h21) ⟨.inl rfl, .inl rfl, .inl rfl, trivial⟩) ?_
     refine seq_run0 (stp_pick_f rfl (bFF h19) rfl) ?_
     exact ⟨r20, H, ⟨rfl, rfl, rfl, rfl, rfl, rfl, rfl, trivial⟩, ⟨rfl, trivial⟩⟩
    ·have h22 := un4 h18
     replace H := ift h22 H
     refine seq_skip rfl rfl h18 ?_
     refine seq_skip rfl rfl h18 ?_
     refine seq_skip rfl rfl h18 ?_
     refine seq_run0 (stp_pick_t rfl (bTT h22) rfl) ?_
     exact ⟨true, H, ⟨rfl, rfl, rfl, rfl, rfl, rfl, rfl, trivial⟩, ⟨rfl, trivial⟩⟩
   ·rintro v23 H
    replace H : portal_tiersFault_J3 l1 k3 x6 v23 = some q4 := H
    unfold portal_tiersFault_J3 at H
    refine awp_cond _ rfl (fun h24 => ?_) (fun h24 => ?_)
    ·replace H := ift h24 H
     refine awp_seq ?_
     refine awp_plain hN rfl ?_
     refine qe rfl ?_
     refine awp_ret ?_
     replace H := retl H hq4
     cases H
     exact ⟨trivial, .inl rfl, trivial⟩
    ·replace H := iff_ h24 H
     refine awp_skip ?_
     refine awp_joinE (ι := Bool) (fun i => [(0, .dat (vlst (List.map C_api_Tier l1))), (8, .dat (vlst (List.map C_api_Tier l1))), (9, .dat (vint (l1.length : Int))), (10, .dat (vint (k3 : Int))), (35, .dat (vbool i))]) (fun i => []) (fun i => portal_tiersFault_J4 i = some q4) (fun i => rfl) ?_ ?_
     ·skip
      refine awp_draw mixed hN rfl rfl ?_
      refine qd rfl ?_
      refine seq_run0 (stp_gtr rfl rfl) ?_
      refine qd rfl ?_
      refine seq_split (j := 2) rfl rfl (fun h25 => ?_) (fun h25 => ?_) rfl
      ·have h26 := un1 h25
       replace H := ift h26 H
       refine seq_g0 rfl rfl h25 (stp_fldP tyF92_0 rfl) ?_
       refine seq_g1 rfl rfl h25 (stp_load1 tyS3 rfl rfl) rfl ?_
       refine seq_g0 rfl rfl h25 (stp_move (.dat _) rfl) ?_
       refine seq_g0 rfl rfl h25 (stp_move (.dat _) rfl) ?_
       refine seq_g0 rfl rfl h25 (stp_sub rfl rfl (by omega)) ?_
       obtain ⟨x27, h28, H⟩ := bnd H
       refine seq_g0 rfl rfl h25 (t_idxI tyE62 (fun _ => rfl) rfl rfl h28) ?_
       refine seq_g0 rfl rfl h25 (stp_fldE tyF92_0 rfl) ?_
       refine seq_g0 rfl rfl h25 (stp_loadE1 tyS3 rfl (map_at (at_some h28).2) rfl) ?_
       refine seq_g0 rfl rfl h25 (stp_leq rfl rfl) ?_
       refine seq_run0 (stp_pick_t rfl (bTT h26) rfl) ?_
       refine ⟨rfl, ?_⟩
       exact ⟨decide (x6.From ≤ x27.From), H, ⟨rfl, rfl, rfl, rfl, rfl, trivial⟩, trivial⟩
      ·have h29 := un2 h25
       replace H := iff_ h29 H
       refine seq_skip rfl rfl h25 ?_
       refine seq_skip rfl rfl h25 ?_
       refine seq_skip rfl rfl h25 ?_
       refine seq_skip rfl rfl h25 ?_
       refine seq_skip rfl rfl h25 ?_
       refine seq_skip rfl rfl h25 ?_
       refine seq_skip rfl rfl h25 ?_
       refine seq_skip rfl rfl h25 ?_
       refine seq_skip rfl rfl h25 ?_
       refine seq_run0 (stp_pick_f rfl (bFF h29) rfl) ?_
       refine ⟨rfl, ?_⟩
       exact ⟨false, H, ⟨rfl, rfl, rfl, rfl, rfl, trivial⟩, trivial⟩
     ·rintro v30 H
      replace H : portal_tiersFault_J4 v30 = some q4 := H
      unfold portal_tiersFault_J4 at H
      refine awp_cond _ rfl (fun h31 => ?_) (fun h31 => ?_)
      ·replace H := ift h31 H
       refine awp_seq ?_
       refine awp_plain hN rfl ?_
       refine qe rfl ?_
       refine awp_ret ?_
       replace H := retl H hq4
       cases H
       exact ⟨trivial, .inl rfl, trivial⟩
      ·replace H := iff_ h31 H
       refine awp_skip ?_
       refine awp_plain hN rfl ?_
       refine seq_run0 (stp_add rfl rfl (by omega)) ?_
       refine qd rfl ?_
       exact ⟨_, backl H, ⟨rfl, rfl, rfl, rfl, trivial⟩, trivial⟩
theorem k_portal_planFault (v1 : S_api_Catalog) (v2 : Int) (r : (Int)) (H : m_portal_planFault v1 v2 = some r) : Fn Tryz.prog 70 [vagg (C_api_Catalog v1), vint v2] (resOf [vint r]) := by
 refine ⟨by kernel_rfl, pure_of (us := [vint r]) Tryz.func70 rfl rfl rfl rfl fun X hN => ?_⟩
 unfold m_portal_planFault at H
 refine awp_seq ?_
 refine awp_plain hN rfl ?_
 refine seq_run2 (stp_boxA 1 rfl) rfl ?_
 refine qe rfl ?_
 refine awp_seq ?_
 refine awp_plain hN rfl ?_
 refine seq_run0 (stp_fldP tyF29_1 rfl) ?_
 refine seq_run1 (stp_load1 tyS27 rfl rfl) rfl ?_
 refine qd rfl ?_
 obtain ⟨x3, h4, H⟩ := bnd H
 refine seq_run0 (t_idxI tyE27 (fun _ => rfl) rfl rfl h4) ?_
 refine seq_run0 (stp_loadEA tyS64 rfl (map_at (at_some h4).2) rfl) ?_
 refine seq_run2 (stp_alloc 2 tyZ64 rfl) rfl ?_
 refine seq_run2 (stp_storeW tyS64 rfl rfl rfl rfl) rfl ?_
 refine awp_seq ?_
 refine awp_block ?_
 refine awp_seq ?_
 refine awp_plain hN rfl ?_
 refine seq_run0 (stp_fldP tyF64_0 rfl) ?_
 refine seq_run1 (stp_load1 tyS9 rfl rfl) rfl ?_
 obtain ⟨r5, h6, H⟩ := bnd H
 refine seq_run0 (stp_call (k_kit_IsKey x3.Key r5 h6) ⟨.inl rfl, trivial⟩) ?_
 refine seq_run0 (stp_not rfl) ?_
 refine qe rfl ?_
 refine awp_cond _ rfl (fun h7 => ?_) (fun h7 => ?_)
 ·replace H := ift h7 H
  refine awp_seq ?_
  refine awp_plain hN rfl ?_
  refine qe rfl ?_
  refine awp_ret ?_
  cases H
  exact ⟨trivial, .inl rfl, trivial⟩
 ·replace H := iff_ h7 H
  refine awp_joinE (ι := Bool) (fun i => [(2, .ptr 1 0), (5, .ptr 2 0), (19, .dat (vbool i))]) (fun i => [(1, .box none 29 [.dat (vlst (List.map C_api_Product v1.Products)), .dat (vlst (List.map C_api_Plan v1.Plans))]), (2, .box none 64 [.dat (vstr x3.Key), .dat (vstr x3.Product), .dat (vint x3.Base), .dat (vint x3.Free), .dat (vlst (List.map C_api_Tier x3.Tiers)), .dat (vint x3.Limit), .dat (vint x3.Trial), .dat (vbool x3.Asked)])]) (fun i => portal_planFault_J1 v1 x3 i = some r) (fun i => rfl) ?_ ?_
  ·skip
   refine awp_draw mixed hN rfl rfl ?_
   refine qd rfl ?_
   refine seq_run0 (stp_gtr rfl rfl) ?_
   refine qd rfl ?_
   refine seq_split (j := 2) rfl rfl (fun h8 => ?_) (fun h8 => ?_) rfl
   ·have h9 := un1 h8
    replace H := ift h9 H
    refine seq_g0 rfl rfl h8 (stp_fldP tyF64_0 rfl) ?_
    refine seq_g1 rfl rfl h8 (stp_load1 tyS9 rfl rfl) rfl ?_
    refine seq_g0 rfl rfl h8 (stp_fldP tyF29_1 rfl) ?_
    refine seq_g1 rfl rfl h8 (stp_load1 tyS27 rfl rfl) rfl ?_
    refine seq_g0 rfl rfl h8 (stp_move (.dat _) rfl) ?_
    refine seq_g0 rfl rfl h8 (stp_wrap _ rfl rfl (.inr (.inl ⟨rfl, rfl⟩))) ?_
    obtain ⟨x10, h11, H⟩ := bnd H
    refine seq_g0 rfl rfl h8 (t_idxI tyE27 (fun _ => rfl) rfl rfl h11) ?_
    refine seq_g0 rfl rfl h8 (stp_fldE tyF64_0 rfl) ?_
    refine seq_g0 rfl rfl h8 (stp_loadE1 tyS9 rfl (map_at (at_some h11).2) rfl) ?_
    refine seq_g0 rfl rfl h8 (stp_sleq rfl rfl) ?_
    refine seq_run0 (stp_pick_t rfl (bTT h9) rfl) ?_
    refine qe rfl ?_
    refine ⟨rfl, ?_⟩
    exact ⟨(Op.bytesLess x3.Key x10.Key || x3.Key == x10.Key), H, ⟨rfl, rfl, rfl, trivial⟩, ⟨rfl, rfl, trivial⟩⟩
   ·have h12 := un2 h8
    replace H := iff_ h12 H
    refine seq_skip rfl rfl h8 ?_
    refine seq_skip rfl rfl h8 ?_
    refine seq_skip rfl rfl h8 ?_
    refine seq_skip rfl rfl h8 ?_
    refine seq_skip rfl rfl h8 ?_
    refine seq_skip rfl rfl h8 ?_
    refine seq_skip rfl rfl h8 ?_
    refine seq_skip rfl rfl h8 ?_
    refine seq_skip rfl rfl h8 ?_
    refine seq_skip rfl rfl h8 ?_
    refine seq_run0 (stp_pick_f rfl (bFF h12) rfl) ?_
    refine qe rfl ?_
    refine ⟨rfl, ?_⟩
    exact ⟨false, H, ⟨rfl, rfl, rfl, trivial⟩, ⟨rfl, rfl, trivial⟩⟩
  ·rintro v13 H
   replace H : portal_planFault_J1 v1 x3 v13 = some r := H
   unfold portal_planFault_J1 at H
   refine awp_cond _ rfl (fun h14 => ?_) (fun h14 => ?_)
   ·replace H := ift h14 H
    refine awp_seq ?_
    refine awp_plain hN rfl ?_
    refine qe rfl ?_
    refine awp_ret ?_
    cases H
    exact ⟨trivial, .inl rfl, trivial⟩
   ·replace H := iff_ h14 H
    refine awp_skip ?_
    refine awp_seq ?_
    refine awp_seq ?_
    refine awp_plain hN rfl ?_
    refine seq_run1 (stp_loadA tyS29 rfl rfl rfl) rfl ?_
    refine seq_run0 (stp_fldP tyF64_1 rfl) ?_
    refine seq_run1 (stp_load1 tyS9 rfl rfl) rfl ?_
    obtain ⟨r15, h16, H⟩ := bnd H
    refine seq_run0 (stp_call (k_portal_productAt v1 x3.Product r15 h16) ⟨.inl rfl, .inl rfl, trivial⟩) ?_
    refine qd rfl ?_
    refine seq_run0 (stp_ext rfl rfl) ?_
    refine seq_run0 (stp_ext rfl rfl) ?_
    refine qe rfl ?_
    refine qe rfl ?_
    refine awp_seq ?_
    refine awp_plain hN rfl ?_
    refine qd rfl ?_
    refine seq_run0 (stp_not rfl) ?_
    refine awp_cond _ rfl (fun h17 => ?_) (fun h17 => ?_)
    ·replace H := ift h17 H
     refine awp_seq ?_
     refine awp_plain hN rfl ?_
     refine qe rfl ?_
     refine awp_ret ?_
     cases H
     exact ⟨trivial, .inl rfl, trivial⟩
    ·replace H := iff_ h17 H
     refine awp_skip ?_
     refine awp_seq ?_
     refine awp_joinE (ι := Bool) (fun i => [(5, .ptr 2 0), (50, .dat (vbool i))]) (fun i => [(2, .box none 64 [.dat (vstr x3.Key), .dat (vstr x3.Product), .dat (vint x3.Base), .dat (vint x3.Free), .dat (vlst (List.map C_api_Tier x3.Tiers)), .dat (vint x3.Limit), .dat (vint x3.Trial), .dat (vbool x3.Asked)])]) (fun i => portal_planFault_J2 x3 i = some r) (fun i => rfl) ?_ ?_
     ·skip
      refine awp_plain hN rfl ?_
      refine seq_run0 (stp_fldP tyF64_2 rfl) ?_
      refine seq_run1 (stp_load1 tyS3 rfl rfl) rfl ?_
      obtain ⟨r18, h19, H⟩ := bnd H
      refine seq_run0 (stp_call (k_kit_Outside x3.Base 0 1000000000000 r18 h19) ⟨.inl rfl, .inl rfl, .inl rfl, trivial⟩) ?_
      refine qd rfl ?_
      refine seq_split (j := 3) rfl rfl (fun h20 => ?_) (fun h20 => ?_) rfl
      ·have h21 := un3 h20
       replace H := iff_ h21 H
       refine seq_g0 rfl rfl h20 (stp_fldP tyF64_3 rfl) ?_
       refine seq_g1 rfl rfl h20 (stp_load1 tyS3 rfl rfl) rfl ?_
       obtain ⟨r22, h23, H⟩ := bnd H
       refine seq_g0 rfl rfl h20 (stp_call (k_kit_Outside x3.Free 0 1000000000000 r22 h23) ⟨.inl rfl, .inl rfl, .inl rfl, trivial⟩) ?_
       refine seq_run0 (stp_pick_f rfl (bFF h21) rfl) ?_
       exact ⟨r22, H, ⟨rfl, rfl, trivial⟩, ⟨rfl, trivial⟩⟩
      ·have h24 := un4 h20
       replace H := ift h24 H
       refine seq_skip rfl rfl h20 ?_
       refine seq_skip rfl rfl h20 ?_
       refine seq_skip rfl rfl h20 ?_
       refine seq_run0 (stp_pick_t rfl (bTT h24) rfl) ?_
       exact ⟨true, H, ⟨rfl, rfl, trivial⟩, ⟨rfl, trivial⟩⟩
     ·rintro v25 H
      replace H : portal_planFault_J2 x3 v25 = some r := H
      unfold portal_planFault_J2 at H
      refine awp_cond _ rfl (fun h26 => ?_) (fun h26 => ?_)
      ·replace H := ift h26 H
       refine awp_seq ?_
       refine awp_plain hN rfl ?_
       refine qe rfl ?_
       refine awp_ret ?_
       cases H
       exact ⟨trivial, .inl rfl, trivial⟩
      ·replace H := iff_ h26 H
       refine awp_skip ?_
       refine awp_seq ?_
       refine awp_seq ?_
       refine awp_plain hN rfl ?_
       refine seq_run0 (stp_fldP tyF64_4 rfl) ?_
       refine seq_run1 (stp_load1 tyS62 rfl rfl) rfl ?_
       obtain ⟨r27, h28, H⟩ := bnd H
       refine seq_run0 (stp_call (k_portal_tiersFault x3.Tiers r27 h28) ⟨.inl rfl, trivial⟩) ?_
       refine qe rfl ?_
       refine awp_seq ?_
       refine awp_plain hN rfl ?_
       refine qd rfl ?_
       refine seq_run0 (stp_neq rfl rfl) ?_
       refine awp_cond _ rfl (fun h29 => ?_) (fun h29 => ?_)
       ·replace H := ift h29 H
        refine awp_seq ?_
        refine awp_plain hN rfl ?_
        refine qd rfl ?_
        refine qe rfl ?_
        refine awp_ret ?_
        cases H
        exact ⟨trivial, .inl rfl, trivial⟩
       ·replace H := iff_ h29 H
        refine awp_skip ?_
        refine awp_seq ?_
        refine awp_joinE (ι := Bool) (fun i => [(64, .dat (vbool i))]) (fun i => []) (fun i => portal_planFault_J3 i = some r) (fun i => rfl) ?_ ?_
        ·skip
         refine awp_plain hN rfl ?_
         refine seq_run0 (stp_fldP tyF64_5 rfl) ?_
         refine seq_run1 (stp_load1 tyS3 rfl rfl) rfl ?_
         obtain ⟨r30, h31, H⟩ := bnd H
         refine seq_run0 (stp_call (k_kit_Outside x3.Limit (-1) 1000000000000 r30 h31) ⟨.inl rfl, .inl rfl, .inl rfl, trivial⟩) ?_
         refine qd rfl ?_
         refine seq_split (j := 3) rfl rfl (fun h32 => ?_) (fun h32 => ?_) rfl
         ·have h33 := un3 h32
          replace H := iff_ h33 H
          refine seq_g0 rfl rfl h32 (stp_fldP tyF64_6 rfl) ?_
          refine seq_g1 rfl rfl h32 (stp_load1 tyS3 rfl rfl) rfl ?_
          obtain ⟨r34, h35, H⟩ := bnd H
          refine seq_g0 rfl rfl h32 (stp_call (k_kit_Outside x3.Trial 0 132 r34 h35) ⟨.inl rfl, .inl rfl, .inl rfl, trivial⟩) ?_
          refine seq_run0 (stp_pick_f rfl (bFF h33) rfl) ?_
          exact ⟨r34, H, ⟨rfl, trivial⟩, trivial⟩
         ·have h36 := un4 h32
          replace H := ift h36 H
          refine seq_skip rfl rfl h32 ?_
          refine seq_skip rfl rfl h32 ?_
          refine seq_skip rfl rfl h32 ?_
          refine seq_run0 (stp_pick_t rfl (bTT h36) rfl) ?_
          exact ⟨true, H, ⟨rfl, trivial⟩, trivial⟩
        ·rintro v37 H
         replace H : portal_planFault_J3 v37 = some r := H
         unfold portal_planFault_J3 at H
         refine awp_cond _ rfl (fun h38 => ?_) (fun h38 => ?_)
         ·replace H := ift h38 H
          refine awp_seq ?_
          refine awp_plain hN rfl ?_
          refine qe rfl ?_
          refine awp_ret ?_
          cases H
          exact ⟨trivial, .inl rfl, trivial⟩
         ·replace H := iff_ h38 H
          refine awp_skip ?_
          refine awp_seq ?_
          refine awp_plain hN rfl ?_
          refine qe rfl ?_
          refine awp_ret ?_
          cases H
          exact ⟨trivial, .inl rfl, trivial⟩
theorem k_portal_CheckCatalog (c1 : S_api_Catalog) (r : (Int)) (H : m_portal_CheckCatalog c1 = some r) : Fn Tryz.prog 42 [vagg (C_api_Catalog c1)] (resOf [vint r]) := by
 refine ⟨by kernel_rfl, pure_of (us := [vint r]) Tryz.func42 rfl rfl rfl rfl fun X hN => ?_⟩
 unfold m_portal_CheckCatalog at H
 refine awp_seq ?_
 refine awp_plain hN rfl ?_
 refine seq_run2 (stp_boxA 1 rfl) rfl ?_
 refine qe rfl ?_
 refine awp_seq ?_
 refine awp_seq ?_
 refine awp_plain hN rfl ?_
 refine seq_run0 (stp_fldP tyF29_0 rfl) ?_
 refine seq_run1 (stp_load1 tyS26 rfl rfl) rfl ?_
 obtain ⟨r2, h3, H⟩ := bnd H
 refine seq_run0 (stp_call (k_portal_productsFault c1.Products r2 h3) ⟨.inl rfl, trivial⟩) ?_
 refine qe rfl ?_
 refine awp_seq ?_
 refine awp_plain hN rfl ?_
 refine qd rfl ?_
 refine seq_run0 (stp_neq rfl rfl) ?_
 refine awp_cond _ rfl (fun h4 => ?_) (fun h4 => ?_)
 ·replace H := ift h4 H
  refine awp_seq ?_
  refine awp_plain hN rfl ?_
  refine qd rfl ?_
  refine qe rfl ?_
  refine awp_ret ?_
  cases H
  exact ⟨trivial, .inl rfl, trivial⟩
 ·replace H := iff_ h4 H
  refine awp_skip ?_
  refine awp_seq ?_
  refine awp_seq ?_
  refine awp_plain hN rfl ?_
  refine seq_run0 (stp_fldP tyF29_1 rfl) ?_
  refine seq_run1 (stp_load1 tyS27 rfl rfl) rfl ?_
  refine seq_run0 (t_len tyU27 rfl) ?_
  refine seq_run0 (stp_gtr rfl rfl) ?_
  refine awp_cond _ rfl (fun h5 => ?_) (fun h5 => ?_)
  ·replace H := ift h5 H
   refine awp_seq ?_
   refine awp_plain hN rfl ?_
   refine qe rfl ?_
   refine awp_ret ?_
   cases H
   exact ⟨trivial, .inl rfl, trivial⟩
  ·replace H := iff_ h5 H
   refine awp_skip ?_
   refine awp_seq ?_
   refine awp_seq ?_
   refine awp_plain hN rfl ?_
   refine seq_run0 (stp_fldP tyF29_1 rfl) ?_
   refine seq_run1 (stp_load1 tyS27 rfl rfl) rfl ?_
   refine seq_run0 (t_len tyU27 rfl) ?_
   refine qd rfl ?_
   refine awp_block ?_
   obtain ⟨h8, H⟩ := gif H
   refine awp_forL (fun (k6 : Nat) (s : Unit) => [(1, .ptr 1 0), (18, .dat (vint (c1.Plans.length : Int))), (19, .dat (vint (k6 : Int)))]) (fun (k6 : Nat) (s : Unit) => [(1, .box none 29 [.dat (vlst (List.map C_api_Product c1.Products)), .dat (vlst (List.map C_api_Plan c1.Plans))])]) () H ⟨rfl, rfl, rfl, trivial⟩ ⟨rfl, trivial⟩ (fun _ _ => rfl) ?_ ?_
   ·rintro ⟨⟩ H
    replace H : portal_CheckCatalog_E1 = some r := H
    unfold portal_CheckCatalog_E1 at H
    refine awp_seq ?_
    refine awp_plain hN rfl ?_
    refine seq_run0 (stp_lss rfl rfl) ?_
    refine awp_seq ?_
    refine awp_cond _ rfl (fun h => (lt_t h).elim) (fun h => ?_)
    refine awp_exit ?_
    refine awp_seq ?_
    refine awp_plain hN rfl ?_
    refine qe rfl ?_
    refine awp_ret ?_
    cases H
    exact ⟨trivial, .inl rfl, trivial⟩
   ·rintro k6 x9 ⟨⟩ q7 h10 h11 H hq7
    replace H : portal_CheckCatalog_L1 c1 k6 x9 = some q7 := H
    unfold portal_CheckCatalog_L1 at H
    refine awp_seq ?_
    refine awp_plain hN rfl ?_
    refine seq_run0 (stp_lss rfl rfl) ?_
    refine awp_seq ?_
    refine awp_cond _ rfl (fun h => ?_) (fun h => (lt_f h10 h).elim)
    refine awp_skip ?_
    refine awp_seq ?_
    refine awp_block ?_
    refine awp_seq ?_
    refine awp_plain hN rfl ?_
    refine qd rfl ?_
    refine qe rfl ?_
    refine awp_seq ?_
    refine awp_plain hN rfl ?_
    refine seq_run1 (stp_loadA tyS29 rfl rfl rfl) rfl ?_
    refine qd rfl ?_
    obtain ⟨r12, h13, H⟩ := bnd H
    refine seq_run0 (stp_call (k_portal_planFault c1 (k6 : Int) r12 h13) ⟨.inl rfl, .inl rfl, trivial⟩) ?_
    refine qe rfl ?_
    refine awp_seq ?_
    refine awp_plain hN rfl ?_
    refine qd rfl ?_
    refine seq_run0 (stp_neq rfl rfl) ?_
    refine awp_cond _ rfl (fun h14 => ?_) (fun h14 => ?_)
    ·replace H := ift h14 H
     refine awp_seq ?_
     refine awp_plain hN rfl ?_
     refine qd rfl ?_
     refine qe rfl ?_
     refine awp_ret ?_
     replace H := retl H hq7
     cases H
     exact ⟨trivial, .inl rfl, trivial⟩
    ·replace H := iff_ h14 H
     refine awp_skip ?_
     refine awp_plain hN rfl ?_
     refine seq_run0 (stp_add rfl rfl (by omega)) ?_
     refine qd rfl ?_
     exact ⟨_, backl H, ⟨rfl, rfl, rfl, trivial⟩, ⟨rfl, trivial⟩⟩
end Go.Proofs.YtaolapgdgdmapaaGreatDoor
