/- Walks along the models. Printed by a program. -/
import Derived.Test.YtbicifgfibafmaaGreatDoorYpw4
namespace Go.Proofs.YtbicifgfibafmaaGreatDoor
open Go.RowKit
set_option linter.unusedVariables false
set_option maxRecDepth 20000
set_option maxHeartbeats 2000000
theorem k_cache_told (s1 : S_api_Control) (v2 : Bs) (r : (Bool × S_api_Control)) (H : m_cache_told s1 v2 = some r) : Imp Tryz.prog 114 102 (C_api_Control s1) [vstr v2] (resOf [vbool r.1]) (C_api_Control r.2) := by
  refine imp_of (us := [vbool r.1]) (cs' := (C_api_Control r.2)) (by kernel_rfl) Tryz.func114 rfl rfl rfl rfl fun X bl hN => ?_
  unfold m_cache_told at H
  refine awp_seq ?_
  refine awp_plain hN rfl ?_
  refine seq_run0 (stp_assign (.dat _) rfl) ?_
  refine awp_seq ?_
  refine awp_plain hN rfl ?_
  refine seq_run0 (stp_move (.dat _) rfl) ?_
  obtain ⟨r3, h4, H⟩ := bnd H
  refine seq_run0 (stp_call (k_strings_Cut v2 [61] r3 h4) ⟨.inl rfl, .inl rfl, trivial⟩) ?_
  refine seq_run0 (stp_move (.dat _) rfl) ?_
  refine seq_run0 (stp_ext rfl rfl) ?_
  refine seq_run0 (stp_ext rfl rfl) ?_
  refine seq_run0 (stp_ext rfl rfl) ?_
  refine seq_run0 (stp_assign (.dat _) rfl) ?_
  refine seq_run0 (stp_assign (.dat _) rfl) ?_
  refine seq_run0 (stp_assign (.dat _) rfl) ?_
  refine awp_seq ?_
  refine awp_plain hN rfl ?_
  refine seq_run0 (stp_move (.dat _) rfl) ?_
  obtain ⟨r5, h6, H⟩ := bnd H
  refine seq_run0 (stp_call (k_cache_seconds r3.2.1 r5 h6) ⟨.inl rfl, trivial⟩) ?_
  refine seq_run0 (stp_move (.dat _) rfl) ?_
  refine seq_run0 (stp_ext rfl rfl) ?_
  refine seq_run0 (stp_ext rfl rfl) ?_
  refine seq_run0 (stp_assign (.dat _) rfl) ?_
  refine seq_run0 (stp_assign (.dat _) rfl) ?_
  refine awp_seq ?_
  refine awp_seq ?_
  refine awp_plain hN rfl ?_
  refine seq_run0 (stp_move (.dat _) rfl) ?_
  obtain ⟨r7, h8, H⟩ := bnd H
  refine seq_run0 (stp_call (k_message_IsToken r3.1 r7 h8) ⟨.inl rfl, trivial⟩) ?_
  refine seq_run0 (stp_not rfl) ?_
  refine seq_run0 (stp_move (.dat _) rfl) ?_
  refine seq_aF rfl rfl (fun hc => stp_move (.dat _) rfl) ?_
  refine seq_aF rfl rfl (fun hc => stp_move (.dat _) (cnd (c := (!(!r7))) hc)) ?_
  refine seq_bT rfl rfl (fun hc => stp_move (.dat _) rfl) ?_
  refine seq_bT rfl rfl (fun hc => stp_not (cnd (c := ((!(!r7)) && r3.2.2)) hc)) ?_
  refine seq_aF rfl rfl (fun hc => stp_pick_and (cnd (c := (!(!r7))) hc) (fun hb => (cnd (c := ((!(!r7)) && r3.2.2)) (andI hc hb))) rfl) ?_
  refine seq_run0 (stp_pick_or rfl rfl (fun hb => (cnd (c := (!(!r7))) (notI hb)))) ?_
  refine awp_cond _ rfl (fun h9 => ?_) (fun h9 => ?_)
  · replace H := ift h9 H
    refine awp_seq ?_
    refine awp_plain hN rfl ?_
    refine seq_run0 (stp_assign (.dat _) rfl) ?_
    refine awp_ret ?_
    cases H
    exact ⟨trivial, ⟨.inl rfl, trivial⟩, rfl⟩
  · replace H := iff_ h9 H
    refine awp_skip ?_
    refine awp_seq ?_
    refine awp_plain hN rfl ?_
    refine seq_run0 (stp_move (.dat _) rfl) ?_
    obtain ⟨r10, h11, H⟩ := bnd H
    refine seq_run0 (stp_call (k_strings_ToLower r3.1 r10 h11) ⟨.inl rfl, trivial⟩) ?_
    refine seq_run0 (stp_assign (.dat _) rfl) ?_
    refine awp_seq ?_
    refine awp_plain hN rfl ?_
    refine seq_run0 (stp_move (.ptr _ _) rfl) ?_
    obtain ⟨r12, h13, H⟩ := bnd H
    refine seq_run1 (stp_dr (s := .dr 0 (fun qb => vtup [vlst (List.map C_string r12.1), vlst (List.map (CP qb) r12.2)])) 0 (fun qb => stp_call (k_cache_flags qb r12 h13) ⟨.inl rfl, trivial⟩) rfl rfl) rfl ?_
    refine seq_run0 (stp_move (.dr _ _) rfl) ?_
    refine seq_run1 (stp_dr (s := .dat (vlst (List.map C_string r12.1))) 0 (fun qb => stp_ext rfl rfl) rfl rfl) rfl ?_
    refine seq_run1 (stp_dr (s := .dr 0 (fun qb => vlst (List.map (CP qb) r12.2))) 0 (fun qb => stp_ext rfl rfl) rfl rfl) rfl ?_
    refine seq_run0 (stp_assign (.dat _) rfl) ?_
    refine seq_run0 (stp_assign (.dr _ _) rfl) ?_
    refine awp_seq ?_
    refine awp_seq ?_
    refine awp_plain hN rfl ?_
    refine seq_run0 (stp_move (.dat _) rfl) ?_
    refine seq_run0 (stp_move (.dat _) rfl) ?_
    obtain ⟨r14, h15, H⟩ := bnd H
    refine seq_run0 (stp_call (k_slices_Index_L_string_string_ r12.1 r10 r14 h15) ⟨.inl rfl, .inl rfl, trivial⟩) ?_
    refine seq_run0 (stp_assign (.dat _) rfl) ?_
    refine awp_seq ?_
    refine awp_plain hN rfl ?_
    refine seq_run0 (stp_move (.dat _) rfl) ?_
    refine seq_run0 (stp_geq rfl rfl) ?_
    refine awp_cond _ rfl (fun h16 => ?_) (fun h16 => ?_)
    · replace H := ift h16 H
      refine awp_seq ?_
      refine awp_plain hN rfl ?_
      refine seq_run0 (stp_move (.dr _ _) rfl) ?_
      refine seq_run0 (stp_move (.dat _) rfl) ?_
      obtain ⟨x17, h18, H⟩ := bnd H
      refine seq_run1 (stp_dr (s := .dr 0 (fun qb => vcell (List.map (CP qb) r12.2) r14.toNat 0)) 0 (fun qb => t_idxI tyE144 (fun _ => rfl) rfl rfl h18) rfl rfl) rfl ?_
      obtain ⟨h19, H⟩ := gif H
      refine seq_run1 (stp_dr (s := .ptr 0 x17.toNat) 0 (fun qb => stp_loadE1 tyS147 rfl (map_at (at_some h18).2) rfl) rfl rfl) rfl ?_
      refine seq_run0 (stp_nilP rfl) ?_
      obtain ⟨c20, h21, H⟩ := bnd H
      refine seq_run2 (stp_storeD tyS4 rfl rfl rfl (st_S_api_Control_bool_at (c := s1) h19 h21)) rfl ?_
      refine awp_seq ?_
      refine awp_plain hN rfl ?_
      refine seq_run0 (stp_move (.dat _) rfl) ?_
      refine seq_run0 (stp_not rfl) ?_
      refine seq_run0 (stp_assign (.dat _) rfl) ?_
      refine awp_ret ?_
      cases H
      exact ⟨trivial, ⟨.inl rfl, trivial⟩, rfl⟩
    · replace H := iff_ h16 H
      refine awp_skip ?_
      refine awp_seq ?_
      refine awp_plain hN rfl ?_
      refine seq_run0 (stp_move (.ptr _ _) rfl) ?_
      obtain ⟨r22, h23, H⟩ := bnd H
      refine seq_run1 (stp_dr (s := .dr 0 (fun qb => vtup [vlst (List.map C_string r22.1), vlst (List.map (CP qb) r22.2)])) 0 (fun qb => stp_call (k_cache_numbers qb r22 h23) ⟨.inl rfl, trivial⟩) rfl rfl) rfl ?_
      refine seq_run0 (stp_move (.dr _ _) rfl) ?_
      refine seq_run1 (stp_dr (s := .dat (vlst (List.map C_string r22.1))) 0 (fun qb => stp_ext rfl rfl) rfl rfl) rfl ?_
      refine seq_run1 (stp_dr (s := .dr 0 (fun qb => vlst (List.map (CP qb) r22.2))) 0 (fun qb => stp_ext rfl rfl) rfl rfl) rfl ?_
      refine seq_run0 (stp_assign (.dat _) rfl) ?_
      refine seq_run0 (stp_assign (.dr _ _) rfl) ?_
      refine awp_seq ?_
      refine awp_plain hN rfl ?_
      refine seq_run0 (stp_move (.dat _) rfl) ?_
      refine seq_run0 (stp_move (.dat _) rfl) ?_
      obtain ⟨r24, h25, H⟩ := bnd H
      refine seq_run0 (stp_call (k_slices_Index_L_string_string_ r22.1 r10 r24 h25) ⟨.inl rfl, .inl rfl, trivial⟩) ?_
      refine seq_run0 (stp_assign (.dat _) rfl) ?_
      refine awp_seq ?_
      refine awp_seq ?_
      refine awp_plain hN rfl ?_
      refine seq_run0 (stp_move (.dat _) rfl) ?_
      refine seq_run0 (stp_lss rfl rfl) ?_
      refine awp_cond _ rfl (fun h26 => ?_) (fun h26 => ?_)
      · replace H := ift h26 H
        refine awp_seq ?_
        refine awp_plain hN rfl ?_
        refine seq_run0 (stp_assign (.dat _) rfl) ?_
        refine awp_ret ?_
        cases H
        exact ⟨trivial, ⟨.inl rfl, trivial⟩, rfl⟩
      · replace H := iff_ h26 H
        refine awp_skip ?_
        refine awp_joinE (ι := Bool × Bool × Bool × Bool × Bool × Bool × Int × Int × Int × Int × Int × Int) (fun i => [(7, .dat (vbool r3.2.2))]) (fun i => [(0, .box (some bl) 102 [.dat (vbool i.1), .dat (vbool i.2.1), .dat (vbool i.2.2.1), .dat (vbool i.2.2.2.1), .dat (vbool i.2.2.2.2.1), .dat (vbool i.2.2.2.2.2.1), .dat (vint i.2.2.2.2.2.2.1), .dat (vint i.2.2.2.2.2.2.2.1), .dat (vint i.2.2.2.2.2.2.2.2.1), .dat (vint i.2.2.2.2.2.2.2.2.2.1), .dat (vint i.2.2.2.2.2.2.2.2.2.2.1), .dat (vint i.2.2.2.2.2.2.2.2.2.2.2)])]) (fun i => cache_told_J1 r3 i.1 i.2.1 i.2.2.1 i.2.2.2.1 i.2.2.2.2.1 i.2.2.2.2.2.1 i.2.2.2.2.2.2.1 i.2.2.2.2.2.2.2.1 i.2.2.2.2.2.2.2.2.1 i.2.2.2.2.2.2.2.2.2.1 i.2.2.2.2.2.2.2.2.2.2.1 i.2.2.2.2.2.2.2.2.2.2.2 = some r) (fun i => rfl) ?_ ?_
        · skip
          refine awp_joinE (ι := Bool) (fun i => [(7, .dat (vbool r3.2.2)), (8, .dat (vint r5.1)), (13, .dr 0 (fun qb => vlst (List.map (CP qb) r22.2))), (14, .dat (vint r24)), (81, .dat (vbool i))]) (fun i => [(0, .box (some bl) 102 [.dat (vbool s1.NoStore), .dat (vbool s1.NoCache), .dat (vbool s1.Private), .dat (vbool s1.Public), .dat (vbool s1.Must), .dat (vbool s1.Only), .dat (vint s1.MaxAge), .dat (vint s1.Shared), .dat (vint s1.Stale), .dat (vint s1.OnError), .dat (vint s1.MaxStale), .dat (vint s1.MinFresh)])]) (fun i => cache_told_J2 s1 r3 r5 r22 r24 i = some r) (fun i => rfl) ?_ ?_
          · skip
            refine awp_plain hN rfl ?_
            refine seq_run0 (stp_move (.dr _ _) rfl) ?_
            refine seq_run0 (stp_move (.dat _) rfl) ?_
            obtain ⟨x27, h28, H⟩ := bnd H
            refine seq_run1 (stp_dr (s := .dr 0 (fun qb => vcell (List.map (CP qb) r22.2) r24.toNat 0)) 0 (fun qb => t_idxI tyE128 (fun _ => rfl) rfl rfl h28) rfl rfl) rfl ?_
            obtain ⟨h29, H⟩ := gif H
            refine seq_run1 (stp_dr (s := .ptr 0 x27.toNat) 0 (fun qb => stp_loadE1 tyS132 rfl (map_at (at_some h28).2) rfl) rfl rfl) rfl ?_
            refine seq_run0 (stp_nilP rfl) ?_
            refine seq_run1 (stp_load1 tyS3 rfl (gt_S_api_Control_int_at (c := s1) h29)) rfl ?_
            refine seq_run0 (stp_eql rfl rfl) ?_
            refine seq_run0 (stp_move (.dat _) rfl) ?_
            refine seq_split (j := 7) rfl rfl (fun h30 => ?_) (fun h30 => ?_) rfl
            · have h31 := un3 h30
              replace H := iff_ h31 H
              refine seq_g0 rfl rfl h30 (stp_move (.dat _) rfl) ?_
              refine seq_g0 rfl rfl h30 (stp_move (.dr _ _) rfl) ?_
              refine seq_g0 rfl rfl h30 (stp_move (.dat _) rfl) ?_
              refine seq_g1 rfl rfl h30 (stp_dr (s := .dr 0 (fun qb => vcell (List.map (CP qb) r22.2) r24.toNat 0)) 0 (fun qb => t_idxI tyE128 (fun _ => rfl) rfl rfl h28) rfl rfl) rfl ?_
              obtain ⟨h32, H⟩ := gif H
              refine seq_g1 rfl rfl h30 (stp_dr (s := .ptr 0 x27.toNat) 0 (fun qb => stp_loadE1 tyS132 rfl (map_at (at_some h28).2) rfl) rfl rfl) rfl ?_
              refine seq_g0 rfl rfl h30 (stp_nilP rfl) ?_
              refine seq_g1 rfl rfl h30 (stp_load1 tyS3 rfl (gt_S_api_Control_int_at (c := s1) h32)) rfl ?_
              refine seq_g0 rfl rfl h30 (stp_lss rfl rfl) ?_
              refine seq_run0 (stp_pick_f rfl (bFF h31) rfl) ?_
              exact ⟨decide (r5.1 < (gt_S_api_Control_int s1 x27)), H, ⟨rfl, rfl, rfl, rfl, rfl, trivial⟩, ⟨rfl, trivial⟩⟩
            · have h33 := un4 h30
              replace H := ift h33 H
              refine seq_skip rfl rfl h30 ?_
              refine seq_skip rfl rfl h30 ?_
              refine seq_skip rfl rfl h30 ?_
              refine seq_skip rfl rfl h30 ?_
              refine seq_skip rfl rfl h30 ?_
              refine seq_skip rfl rfl h30 ?_
              refine seq_skip rfl rfl h30 ?_
              refine seq_skip rfl rfl h30 ?_
              refine seq_run0 (stp_pick_t rfl (bTT h33) rfl) ?_
              exact ⟨true, H, ⟨rfl, rfl, rfl, rfl, rfl, trivial⟩, ⟨rfl, trivial⟩⟩
          · rintro v34 H
            replace H : cache_told_J2 s1 r3 r5 r22 r24 v34 = some r := H
            unfold cache_told_J2 at H
            refine awp_cond _ rfl (fun h35 => ?_) (fun h35 => ?_)
            · replace H := ift h35 H
              refine awp_plain hN rfl ?_
              refine seq_run0 (stp_move (.dr _ _) rfl) ?_
              refine seq_run0 (stp_move (.dat _) rfl) ?_
              obtain ⟨x36, h37, H⟩ := bnd H
              refine seq_run1 (stp_dr (s := .dr 0 (fun qb => vcell (List.map (CP qb) r22.2) r24.toNat 0)) 0 (fun qb => t_idxI tyE128 (fun _ => rfl) rfl rfl h37) rfl rfl) rfl ?_
              obtain ⟨h38, H⟩ := gif H
              refine seq_run1 (stp_dr (s := .ptr 0 x36.toNat) 0 (fun qb => stp_loadE1 tyS132 rfl (map_at (at_some h37).2) rfl) rfl rfl) rfl ?_
              refine seq_run0 (stp_move (.dat _) rfl) ?_
              refine seq_run0 (stp_nilP rfl) ?_
              obtain ⟨c39, h40, H⟩ := bnd H
              refine seq_run2 (stp_storeD tyS3 rfl rfl rfl (st_S_api_Control_int_at (c := s1) h38 h40)) rfl ?_
              exact ⟨(c39.NoStore, c39.NoCache, c39.Private, c39.Public, c39.Must, c39.Only, c39.MaxAge, c39.Shared, c39.Stale, c39.OnError, c39.MaxStale, c39.MinFresh), H, ⟨rfl, trivial⟩, ⟨rfl, trivial⟩⟩
            · replace H := iff_ h35 H
              refine awp_skip ?_
              exact ⟨(s1.NoStore, s1.NoCache, s1.Private, s1.Public, s1.Must, s1.Only, s1.MaxAge, s1.Shared, s1.Stale, s1.OnError, s1.MaxStale, s1.MinFresh), H, ⟨rfl, trivial⟩, ⟨rfl, trivial⟩⟩
        · rintro ⟨c41, c42, c43, c44, c45, c46, c47, c48, c49, c50, c51, c52⟩ H
          replace H : cache_told_J1 r3 c41 c42 c43 c44 c45 c46 c47 c48 c49 c50 c51 c52 = some r := H
          unfold cache_told_J1 at H
          refine awp_seq ?_
          refine awp_plain hN rfl ?_
          refine seq_run0 (stp_move (.dat _) rfl) ?_
          refine seq_run0 (stp_assign (.dat _) rfl) ?_
          refine awp_ret ?_
          cases H
          exact ⟨trivial, ⟨.inl rfl, trivial⟩, rfl⟩
theorem k_cache_parse (l1 : (List S_api_Header)) (r : (S_api_Control × Int)) (H : m_cache_parse l1 = some r) : Fn Tryz.prog 83 [vlst (List.map C_api_Header l1)] (resOf [vagg (C_api_Control r.1), vint r.2]) := by
  refine ⟨by kernel_rfl, pure_of (us := [vagg (C_api_Control r.1), vint r.2]) Tryz.func83 rfl rfl rfl rfl fun X hN => ?_⟩
  unfold m_cache_parse at H
  refine awp_seq ?_
  refine awp_plain hN rfl ?_
  refine seq_run2 (stp_alloc 1 tyZ102 rfl) rfl ?_
  refine seq_run0 (stp_assign (.dat _) rfl) ?_
  refine awp_seq ?_
  refine awp_plain hN rfl ?_
  refine seq_run0 (stp_dat (u' := vagg (C_api_Control (S_api_Control.mk false false false false false false 0 0 0 0 0 0))) (stp_build [] tyZ102 tyP102 rfl trivial) rfl) ?_
  refine seq_run2 (stp_alloc 2 tyZ102 rfl) rfl ?_
  refine seq_run2 (stp_storeW tyS102 rfl rfl rfl rfl) rfl ?_
  refine awp_seq ?_
  refine awp_plain hN rfl ?_
  obtain ⟨r2, h3, H⟩ := bnd H
  refine seq_run1 (stp_dr (s := .dr 2 (fun qb => vtup [vlst (List.map C_string r2.1), vlst (List.map (CP qb) r2.2)])) 2 (fun qb => stp_call (k_cache_numbers qb r2 h3) ⟨.inl rfl, trivial⟩) rfl rfl) rfl ?_
  refine seq_run0 (stp_move (.dr _ _) rfl) ?_
  refine seq_run1 (stp_dr (s := .dat (vlst (List.map C_string r2.1))) 2 (fun qb => stp_ext rfl rfl) rfl rfl) rfl ?_
  refine seq_run1 (stp_dr (s := .dr 2 (fun qb => vlst (List.map (CP qb) r2.2))) 2 (fun qb => stp_ext rfl rfl) rfl rfl) rfl ?_
  refine seq_run0 (stp_assign (.dat _) rfl) ?_
  refine seq_run0 (stp_assign (.dr _ _) rfl) ?_
  refine awp_seq ?_
  refine awp_seq ?_
  refine awp_plain hN rfl ?_
  refine seq_run0 (stp_move (.dr _ _) rfl) ?_
  refine seq_run1 (stp_dr (s := .dat (vint (r2.2.length : Int))) 2 (fun qb => t_len tyU128 rfl) rfl rfl) rfl ?_
  refine seq_run0 (stp_move (.dat _) rfl) ?_
  refine awp_block ?_
  obtain ⟨h18, H⟩ := gif H
  refine awp_forL (fun (k16 : Nat) (s : Bool × Bool × Int × Int × Bool × Bool × Bool × Bool × Int × Int × Int × Int) => [(0, .dat (vlst (List.map C_api_Header l1))), (2, .ptr 1 0), (4, .ptr 2 0), (16, .dr 2 (fun qb => vlst (List.map (CP qb) r2.2))), (17, .dat (vint (r2.2.length : Int))), (18, .dat (vint (k16 : Int)))]) (fun (k16 : Nat) (s : Bool × Bool × Int × Int × Bool × Bool × Bool × Bool × Int × Int × Int × Int) => [(1, .box none 102 [.dat (vbool false), .dat (vbool false), .dat (vbool false), .dat (vbool false), .dat (vbool false), .dat (vbool false), .dat (vint 0), .dat (vint 0), .dat (vint 0), .dat (vint 0), .dat (vint 0), .dat (vint 0)]), (2, .box none 102 [.dat (vbool s.1), .dat (vbool s.2.1), .dat (vbool s.2.2.2.2.1), .dat (vbool s.2.2.2.2.2.1), .dat (vbool s.2.2.2.2.2.2.1), .dat (vbool s.2.2.2.2.2.2.2.1), .dat (vint s.2.2.2.2.2.2.2.2.1), .dat (vint s.2.2.2.2.2.2.2.2.2.1), .dat (vint s.2.2.2.2.2.2.2.2.2.2.1), .dat (vint s.2.2.2.2.2.2.2.2.2.2.2), .dat (vint s.2.2.1), .dat (vint s.2.2.2.1)])]) (false, false, 0, 0, false, false, false, false, 0, 0, 0, 0) H ⟨rfl, rfl, rfl, rfl, rfl, rfl, trivial⟩ ⟨rfl, rfl, trivial⟩ (fun _ _ => rfl) ?_ ?_
  · rintro ⟨c4, c5, c6, c7, c8, c9, c10, c11, c12, c13, c14, c15⟩ H
    replace H : cache_parse_E1 l1 c4 c5 c6 c7 c8 c9 c10 c11 c12 c13 c14 c15 = some r := H
    unfold cache_parse_E1 at H
    refine awp_seq ?_
    refine awp_plain hN rfl ?_
    refine seq_run0 (stp_lss rfl rfl) ?_
    refine awp_seq ?_
    refine awp_cond _ rfl (fun h => (lt_t h).elim) (fun h => ?_)
    refine awp_exit ?_
    refine awp_seq ?_
    refine awp_seq ?_
    refine awp_plain hN rfl ?_
    refine seq_run0 (stp_move (.dat _) rfl) ?_
    obtain ⟨r20, h21, H⟩ := bnd H
    refine seq_run0 (stp_call (k_message_Values l1 [99, 97, 99, 104, 101, 45, 99, 111, 110, 116, 114, 111, 108] r20 h21) ⟨.inl rfl, .inl rfl, trivial⟩) ?_
    obtain ⟨r22, h23, H⟩ := bnd H
    refine seq_run0 (stp_call (k_message_Parts r20 r22 h23) ⟨.inl rfl, trivial⟩) ?_
    refine seq_run0 (t_len tyU48 rfl) ?_
    refine seq_run0 (stp_move (.dat _) rfl) ?_
    refine awp_block ?_
    obtain ⟨h38, H⟩ := gif H
    refine awp_forL (fun (k36 : Nat) (s : Bool × Bool × Int × Int × Bool × Bool × Bool × Bool × Int × Int × Int × Int) => [(2, .ptr 1 0), (4, .ptr 2 0), (27, .dat (vlst (List.map C_string r22))), (28, .dat (vint (r22.length : Int))), (29, .dat (vint (k36 : Int)))]) (fun (k36 : Nat) (s : Bool × Bool × Int × Int × Bool × Bool × Bool × Bool × Int × Int × Int × Int) => [(1, .box none 102 [.dat (vbool false), .dat (vbool false), .dat (vbool false), .dat (vbool false), .dat (vbool false), .dat (vbool false), .dat (vint 0), .dat (vint 0), .dat (vint 0), .dat (vint 0), .dat (vint 0), .dat (vint 0)]), (2, .box none 102 [.dat (vbool s.1), .dat (vbool s.2.1), .dat (vbool s.2.2.2.2.1), .dat (vbool s.2.2.2.2.2.1), .dat (vbool s.2.2.2.2.2.2.1), .dat (vbool s.2.2.2.2.2.2.2.1), .dat (vint s.2.2.2.2.2.2.2.2.1), .dat (vint s.2.2.2.2.2.2.2.2.2.1), .dat (vint s.2.2.2.2.2.2.2.2.2.2.1), .dat (vint s.2.2.2.2.2.2.2.2.2.2.2), .dat (vint s.2.2.1), .dat (vint s.2.2.2.1)])]) (c4, c5, c6, c7, c8, c9, c10, c11, c12, c13, c14, c15) H ⟨rfl, rfl, rfl, rfl, rfl, trivial⟩ ⟨rfl, rfl, trivial⟩ (fun _ _ => rfl) ?_ ?_
    · rintro ⟨c24, c25, c26, c27, c28, c29, c30, c31, c32, c33, c34, c35⟩ H
      replace H : cache_parse_E2 c24 c25 c26 c27 c28 c29 c30 c31 c32 c33 c34 c35 = some r := H
      unfold cache_parse_E2 at H
      refine awp_seq ?_
      refine awp_plain hN rfl ?_
      refine seq_run0 (stp_lss rfl rfl) ?_
      refine awp_seq ?_
      refine awp_cond _ rfl (fun h => (lt_t h).elim) (fun h => ?_)
      refine awp_exit ?_
      refine awp_seq ?_
      refine awp_plain hN rfl ?_
      refine seq_run1 (stp_loadA tyS102 rfl rfl rfl) rfl ?_
      refine seq_run2 (stp_storeW tyS102 rfl rfl rfl rfl) rfl ?_
      refine seq_run0 (stp_assign (.dat _) rfl) ?_
      refine awp_ret ?_
      cases H
      exact ⟨trivial, .inl ⟨_, _, _, C_api_Control (S_api_Control.mk c24 c25 c28 c29 c30 c31 c32 c33 c34 c35 c26 c27), rfl, rfl, rfl, rfl, tyS102⟩, .inl rfl, trivial⟩
    · rintro k36 x39 ⟨c24, c25, c26, c27, c28, c29, c30, c31, c32, c33, c34, c35⟩ q37 h40 h41 H hq37
      replace H : cache_parse_L2 k36 x39 c24 c25 c26 c27 c28 c29 c30 c31 c32 c33 c34 c35 = some q37 := H
      unfold cache_parse_L2 at H
      refine awp_seq ?_
      refine awp_plain hN rfl ?_
      refine seq_run0 (stp_lss rfl rfl) ?_
      refine awp_seq ?_
      refine awp_cond _ rfl (fun h => ?_) (fun h => (lt_f h40 h).elim)
      refine awp_skip ?_
      refine awp_seq ?_
      refine awp_block ?_
      refine awp_seq ?_
      refine awp_plain hN rfl ?_
      refine seq_run0 (t_idx tyE48 (fun _ => rfl) rfl rfl h41) ?_
      refine seq_run0 (stp_loadE1 tyS9 rfl (map_at h41) rfl) ?_
      refine seq_run0 (stp_assign (.dat _) rfl) ?_
      refine awp_seq ?_
      refine awp_plain hN rfl ?_
      refine seq_run0 (stp_move (.dat _) rfl) ?_
      obtain ⟨r42, h43, H⟩ := bnd H
      refine seq_run2 (stp_imp (k_cache_told (S_api_Control.mk c24 c25 c28 c29 c30 c31 c32 c33 c34 c35 c26 c27) x39 r42 h43) rfl ⟨.inl rfl, trivial⟩ rfl) rfl ?_
      refine seq_run0 (stp_not rfl) ?_
      refine awp_cond _ rfl (fun h44 => ?_) (fun h44 => ?_)
      · replace H := ift h44 H
        refine awp_seq ?_
        refine awp_plain hN rfl ?_
        refine seq_run0 (stp_dat (u' := vagg (C_api_Control (S_api_Control.mk false false false false false false 0 0 0 0 0 0))) (stp_build [] tyZ102 tyP102 rfl trivial) rfl) ?_
        refine seq_run2 (stp_storeW tyS102 rfl rfl rfl rfl) rfl ?_
        refine seq_run0 (stp_assign (.dat _) rfl) ?_
        refine awp_ret ?_
        replace H := retl H hq37
        cases H
        exact ⟨trivial, .inl ⟨_, _, _, C_api_Control (S_api_Control.mk false false false false false false 0 0 0 0 0 0), rfl, rfl, rfl, rfl, tyS102⟩, .inl rfl, trivial⟩
      · replace H := iff_ h44 H
        refine awp_skip ?_
        refine awp_plain hN rfl ?_
        refine seq_run0 (stp_add rfl rfl (by omega)) ?_
        refine seq_run0 (stp_move (.dat _) rfl) ?_
        exact ⟨_, backl H, ⟨rfl, rfl, rfl, rfl, rfl, trivial⟩, ⟨rfl, rfl, trivial⟩⟩
  · rintro k16 x19 ⟨c4, c5, c6, c7, c8, c9, c10, c11, c12, c13, c14, c15⟩ q17 h45 h46 H hq17
    replace H : cache_parse_L1 k16 x19 c4 c5 c6 c7 c8 c9 c10 c11 c12 c13 c14 c15 = some q17 := H
    unfold cache_parse_L1 at H
    refine awp_seq ?_
    refine awp_plain hN rfl ?_
    refine seq_run0 (stp_lss rfl rfl) ?_
    refine awp_seq ?_
    refine awp_cond _ rfl (fun h => ?_) (fun h => (lt_f h45 h).elim)
    refine awp_skip ?_
    refine awp_seq ?_
    refine awp_block ?_
    refine awp_seq ?_
    refine awp_plain hN rfl ?_
    refine seq_run1 (stp_dr (s := .dr 2 (fun qb => vcell (List.map (CP qb) r2.2) k16 0)) 2 (fun qb => t_idx tyE128 (fun _ => rfl) rfl rfl h46) rfl rfl) rfl ?_
    obtain ⟨h47, H⟩ := gif H
    refine seq_run1 (stp_dr (s := .ptr 2 x19.toNat) 2 (fun qb => stp_loadE1 tyS132 rfl (map_at h46) rfl) rfl rfl) rfl ?_
    refine seq_run0 (stp_assign (.ptr _ _) rfl) ?_
    refine awp_plain hN rfl ?_
    refine seq_run0 (stp_move (.ptr _ _) rfl) ?_
    refine seq_run0 (stp_nilP rfl) ?_
    obtain ⟨c48, h49, H⟩ := bnd H
    refine seq_run2 (stp_storeD tyS3 rfl rfl rfl (st_S_api_Control_int_at (c := (S_api_Control.mk c4 c5 c8 c9 c10 c11 c12 c13 c14 c15 c6 c7)) h47 h49)) rfl ?_
    refine awp_plain hN rfl ?_
    refine seq_run0 (stp_add rfl rfl (by omega)) ?_
    refine seq_run0 (stp_move (.dat _) rfl) ?_
    exact ⟨_, backl H, ⟨rfl, rfl, rfl, rfl, rfl, rfl, trivial⟩, ⟨rfl, rfl, trivial⟩⟩
theorem kr_slices_Clone_L_string_string_ (l r : List Bs) (H : m_slices_Clone l = some r) : FnG Tryz.prog 139 [.dat (vlst (List.map C_string l))] [] (.row 900 r.length) [(900, .row 9 1 (List.map C_string r))] := by
  obtain ⟨hl, rfl⟩ := clone_some H
  refine fnG_of (by kernel_rfl) Tryz.func139 rfl rfl rfl rfl fun X A hN => ?_
  refine awp_nilcase 0 rfl (fun h0 => ?_) ?_
  · obtain rfl := List.map_eq_nil_iff.1 h0
    refine awp_seq ?_
    refine awp_plain hN rfl ?_
    refine seq_run0 (stp_assign (.dat _) rfl) ?_
    refine awp_seq ?_
    refine awp_seq ?_
    refine awp_plain hN rfl ?_
    refine seq_run0 (stp_move (.dat _) rfl) ?_
    refine seq_run0 (stp_eqnil_t tyU48 rfl) ?_
    refine awp_cond _ rfl (fun h => ?_) (fun h => by cases h)
    refine awp_seq ?_
    refine awp_plain hN rfl ?_
    refine seq_run0 (stp_assign (.dat _) rfl) ?_
    refine awp_nilrow 2 900 9 1 rfl rfl rfl ?_
    refine awp_ret ?_
    exact ⟨trivial, [(2, .row 900 0)], ⟨rfl, trivial⟩, ⟨rfl, trivial⟩, rfl, .inr ⟨2, rfl, rfl⟩⟩
  · refine awp_seq ?_
    refine awp_plain hN rfl ?_
    refine seq_run0 (stp_assign (.dat _) rfl) ?_
    refine awp_seq ?_
    refine awp_seq ?_
    refine awp_plain hN rfl ?_
    refine seq_run0 (stp_move (.dat _) rfl) ?_
    refine seq_run0 (stp_eqnil_f tyU48 rfl) ?_
    refine awp_cond _ rfl (fun h => by cases h) (fun h => ?_)
    refine awp_skip ?_
    refine awp_seq ?_
    refine awp_wk 0 (u' := vlst (List.map C_string l)) rfl wk_nn ?_
    refine awp_plain hN rfl ?_
    refine seq_run2 (stp_lit0 900 tyL48) rfl ?_
    refine seq_run0 (stp_move (.dat _) rfl) ?_
    refine seq_run2 (t_app2 (C := C_string) (xs := []) tyL48 (fun _ => rfl) rfl rfl rfl (by simpa using hl) rfl) rfl ?_
    refine seq_run0 (stp_assign (.row _ _) rfl) ?_
    refine awp_ret ?_
    exact ⟨trivial, [(2, .row 900 l.length)], ⟨rfl, trivial⟩, ⟨rfl, trivial⟩, rfl, .inr ⟨2, rfl, rfl⟩⟩
theorem k_slices_Clone_L_string_string_ (l r : List Bs) (H : m_slices_Clone l = some r) : Fn Tryz.prog 139 [vlst (List.map C_string l)] (resOf [vlst (List.map C_string r)]) := by
  have h := kr_slices_Clone_L_string_string_ l r H
  rw [← List.length_map (f := C_string)] at h
  exact fn_of_fnG h
theorem kt_slices_Sort_L_string_string_ (l r : List Bs) (H : m_slices_Sort_string l = some r) : FnG Tryz.prog 140 [.row 0 l.length] [(0, .rowA undef 9 1 (List.map C_string l))] (.dat (resOf [])) [(0, .rowA undef 9 1 (List.map C_string r))] := by
  obtain ⟨hl, hr⟩ := sortS_some H
  refine fnG_turn (fun s : Bs => Value.string ⟨s.toArray⟩) r l (sortS_len H) (by kernel_rfl) (fun _ => rfl) (fun blk cap w hH hb => ?_) (fun h w => ?_)
  · rw [hr]; exact Tryz.slices_Sort_string blk 0 cap l w hH hb (by omega)
  · exact Tryz.slices_Sort_string_none none 0 w
theorem ks_slices_Compact_L_string_string_ (l r : List Bs) (H : m_slices_Compact_string l = some r) : FnG Tryz.prog 141 [.row 0 l.length] [(0, .row 9 1 (List.map C_string l))] (.row 900 r.length) [(900, .row 9 1 (List.map C_string r))] := by
  obtain ⟨h1, rfl⟩ := compactS_some H
  exact fnG_short (fun s : Bs => Value.string ⟨s.toArray⟩) [] (Lib.compact l) l (compact_len l) (by kernel_rfl) (fun _ => rfl) (fun blk cap w hH hc => Tryz.slices_Compact_string blk 0 cap l w hH (by omega) hc) (fun h a cap w => Tryz.slices_Compact_string_empty a cap w)
theorem k_kit_Rising (l1 : (List Bs)) (r : ((List Bs))) (H : m_kit_Rising l1 = some r) : Fn Tryz.prog 115 [vlst (List.map C_string l1)] (resOf [vlst (List.map C_string r)]) := by
  refine ⟨by kernel_rfl, pure_of (us := [vlst (List.map C_string r)]) Tryz.func115 rfl rfl rfl rfl fun X hN => ?_⟩
  unfold m_kit_Rising at H
  refine awp_seq ?_
  refine awp_plain hN rfl ?_
  refine seq_run0 (stp_assign (.dat _) rfl) ?_
  refine awp_seq ?_
  refine awp_plain hN rfl ?_
  refine seq_run0 (stp_move (.dat _) rfl) ?_
  obtain ⟨r2, h3, H⟩ := bnd H
  refine seq_callG (rn [(900, 1)]) [] [(900, _)] (kr_slices_Clone_L_string_string_ l1 r2 h3) ⟨rfl, trivial⟩ ⟨.inl (.inl rfl), trivial⟩ trivial rfl ?_
  refine seq_run0 (stp_assign (.row _ _) rfl) ?_
  refine awp_seq ?_
  refine awp_plain hN rfl ?_
  refine seq_run0 (stp_move (.row _ _) rfl) ?_
  obtain ⟨r4, h5, H⟩ := bnd H
  refine seq_callG (rn [(0, 1)]) [(0, _, _, some _)] [] (kt_slices_Sort_L_string_string_ r2 r4 h5) ⟨rfl, trivial⟩ ⟨.inl (.inl rfl), trivial⟩ ⟨⟨⟨rfl, rfl, rfl⟩, by simp [stayP, sortS_len h5]⟩, trivial⟩ rfl ?_
  refine awp_seq ?_
  refine awp_plain hN rfl ?_
  refine seq_run0 (stp_move (.row _ _) rfl) ?_
  obtain ⟨r6, h7, H⟩ := bnd H
  refine seq_callG (rn [(0, 1), (900, 2)]) [(0, _, _, none)] [(900, _)] (ks_slices_Compact_L_string_string_ r4 r6 h7) ⟨rfl, rfl, trivial⟩ ⟨.inl (.inl (congrArg (Slot.row 1) (sortS_len h5).symm)), trivial⟩ ⟨⟨⟨rfl, rfl, rfl⟩, trivial⟩, trivial⟩ rfl ?_
  refine seq_run0 (stp_assign (.row _ _) rfl) ?_
  refine awp_ret ?_
  cases H
  exact ⟨trivial, t_slotv rfl rfl, trivial⟩
theorem kr_message_Parts (values1 : (List Bs)) (r : ((List Bs))) (H : m_message_Parts values1 = some r) : FnG Tryz.prog 113 [.dat (vlst (List.map C_string values1))] [] (.row 1 r.length) [(1, .row 9 1 (List.map C_string r))] := by
  refine fnG_of (by kernel_rfl) Tryz.func113 rfl rfl rfl rfl fun X A hN => ?_
  unfold m_message_Parts at H
  refine awp_seq ?_
  refine awp_plain hN rfl ?_
  refine seq_run0 (stp_assign (.dat _) rfl) ?_
  refine awp_seq ?_
  refine awp_plain hN rfl ?_
  refine seq_run0 (stp_assign (.dat _) rfl) ?_
  refine awp_seq ?_
  refine awp_seq ?_
  refine awp_plain hN rfl ?_
  refine seq_run0 (stp_move (.dat _) rfl) ?_
  refine seq_run0 (t_len tyU48 rfl) ?_
  refine seq_run0 (stp_move (.dat _) rfl) ?_
  refine awp_block ?_
  refine awp_nilrow 3 1 9 1 rfl rfl rfl ?_
  obtain ⟨h5, H⟩ := gif H
  refine awp_forL (fun (k3 : Nat) (s : (List Bs)) => [(3, .row 1 s.length), (8, .dat (vlst (List.map C_string values1))), (9, .dat (vint (values1.length : Int))), (10, .dat (vint (k3 : Int)))]) (fun (k3 : Nat) (s : (List Bs)) => [(1, .row 9 1 (List.map C_string s))]) [] H ⟨rfl, rfl, rfl, rfl, trivial⟩ ⟨rfl, trivial⟩ (fun _ _ => rfl) ?_ ?_
  · rintro l2 H
    replace H : message_Parts_E1 l2 = some r := H
    unfold message_Parts_E1 at H
    refine awp_seq ?_
    refine awp_plain hN rfl ?_
    refine seq_run0 (stp_lss rfl rfl) ?_
    refine awp_seq ?_
    refine awp_cond _ rfl (fun h => (lt_t h).elim) (fun h => ?_)
    refine awp_exit ?_
    refine awp_seq ?_
    refine awp_plain hN rfl ?_
    refine seq_run0 (stp_move (.row _ _) rfl) ?_
    refine seq_run0 (stp_assign (.row _ _) rfl) ?_
    refine awp_ret ?_
    cases H
    exact ⟨trivial, [(2, .row 1 _)], ⟨rfl, trivial⟩, ⟨rfl, trivial⟩, rfl, .inr ⟨2, rfl, rfl⟩⟩
  · rintro k3 x6 l2 q4 h7 h8 H hq4
    replace H : message_Parts_L1 k3 x6 l2 = some q4 := H
    unfold message_Parts_L1 at H
    refine awp_seq ?_
    refine awp_plain hN rfl ?_
    refine seq_run0 (stp_lss rfl rfl) ?_
    refine awp_seq ?_
    refine awp_cond _ rfl (fun h => ?_) (fun h => (lt_f h7 h).elim)
    refine awp_skip ?_
    refine awp_seq ?_
    refine awp_block ?_
    refine awp_seq ?_
    refine awp_plain hN rfl ?_
    refine seq_run0 (t_idx tyE48 (fun _ => rfl) rfl rfl h8) ?_
    refine seq_run0 (stp_loadE1 tyS9 rfl (map_at h8) rfl) ?_
    refine seq_run0 (stp_assign (.dat _) rfl) ?_
    refine awp_seq ?_
    refine awp_plain hN rfl ?_
    refine seq_run0 (stp_move (.dat _) rfl) ?_
    obtain ⟨r9, h10, H⟩ := bnd H
    refine seq_run0 (stp_call (k_strings_Split x6 [44] r9 h10) ⟨.inl rfl, .inl rfl, trivial⟩) ?_
    refine seq_run0 (t_len tyU48 rfl) ?_
    refine seq_run0 (stp_move (.dat _) rfl) ?_
    refine awp_block ?_
    obtain ⟨h14, H⟩ := gif H
    refine awp_forL (fun (k12 : Nat) (s : (List Bs)) => [(3, .row 1 s.length), (8, .dat (vlst (List.map C_string values1))), (9, .dat (vint (values1.length : Int))), (10, .dat (vint (k3 : Int))), (15, .dat (vlst (List.map C_string r9))), (16, .dat (vint (r9.length : Int))), (17, .dat (vint (k12 : Int)))]) (fun (k12 : Nat) (s : (List Bs)) => [(1, .row 9 1 (List.map C_string s))]) l2 H ⟨rfl, rfl, rfl, rfl, rfl, rfl, rfl, trivial⟩ ⟨rfl, trivial⟩ (fun _ _ => rfl) ?_ ?_
    · rintro l11 H
      replace H : message_Parts_E2 l11 = some q4 := H
      unfold message_Parts_E2 at H
      refine awp_seq ?_
      refine awp_plain hN rfl ?_
      refine seq_run0 (stp_lss rfl rfl) ?_
      refine awp_seq ?_
      refine awp_cond _ rfl (fun h => (lt_t h).elim) (fun h => ?_)
      refine awp_exit ?_
      refine awp_plain hN rfl ?_
      refine seq_run0 (stp_add rfl rfl (by omega)) ?_
      refine seq_run0 (stp_move (.dat _) rfl) ?_
      exact ⟨_, backl H, ⟨rfl, rfl, rfl, rfl, trivial⟩, ⟨rfl, trivial⟩⟩
    · rintro k12 x15 l11 q13 h16 h17 H hq13
      replace H : message_Parts_L2 k12 x15 l11 = some q13 := H
      unfold message_Parts_L2 at H
      refine awp_seq ?_
      refine awp_plain hN rfl ?_
      refine seq_run0 (stp_lss rfl rfl) ?_
      refine awp_seq ?_
      refine awp_cond _ rfl (fun h => ?_) (fun h => (lt_f h16 h).elim)
      refine awp_skip ?_
      refine awp_joinE (ι := (List Bs)) (fun i => [(3, .row 1 i.length), (8, .dat (vlst (List.map C_string values1))), (9, .dat (vint (values1.length : Int))), (10, .dat (vint (k3 : Int))), (15, .dat (vlst (List.map C_string r9))), (16, .dat (vint (r9.length : Int))), (17, .dat (vint (k12 : Int)))]) (fun i => [(1, .row 9 1 (List.map C_string i))]) (fun i => message_Parts_J3 i = some q13) (fun i => rfl) ?_ ?_
      · skip
        refine awp_block ?_
        refine awp_seq ?_
        refine awp_plain hN rfl ?_
        refine seq_run0 (t_idx tyE48 (fun _ => rfl) rfl rfl h17) ?_
        refine seq_run0 (stp_loadE1 tyS9 rfl (map_at h17) rfl) ?_
        refine seq_run0 (stp_assign (.dat _) rfl) ?_
        refine awp_seq ?_
        refine awp_plain hN rfl ?_
        refine seq_run0 (stp_move (.dat _) rfl) ?_
        obtain ⟨r18, h19, H⟩ := bnd H
        refine seq_run0 (stp_call (k_strings_Trim x15 [32] r18 h19) ⟨.inl rfl, .inl rfl, trivial⟩) ?_
        refine seq_run0 (stp_assign (.dat _) rfl) ?_
        refine awp_seq ?_
        refine awp_plain hN rfl ?_
        refine seq_run0 (stp_move (.dat _) rfl) ?_
        refine seq_run0 (stp_sneq rfl rfl) ?_
        refine awp_cond _ rfl (fun h20 => ?_) (fun h20 => ?_)
        · replace H := ift h20 H
          refine awp_plain hN rfl ?_
          refine seq_run0 (stp_move (.row _ _) rfl) ?_
          refine seq_run0 (stp_move (.dat _) rfl) ?_
          refine seq_run0 (stp_dat (u' := vlst (List.map C_string [r18])) (stp_lit [[_]] tyL48 ⟨rfl, .inl ⟨_, rfl, rfl, rfl⟩, rfl, trivial⟩ rfl rfl) rfl) ?_
          obtain ⟨h21, H⟩ := gif H
          refine seq_run2 (t_app tyL48 (fun _ => rfl) rfl rfl rfl ⟨by simp, by first | (simp; done) | simpa using h21⟩ rfl) rfl ?_
          refine seq_run0 (stp_assign (.row _ _) rfl) ?_
          exact ⟨(l11 ++ [r18]), H, ⟨rfl, rfl, rfl, rfl, rfl, rfl, rfl, trivial⟩, ⟨rfl, trivial⟩⟩
        · replace H := iff_ h20 H
          refine awp_skip ?_
          exact ⟨l11, H, ⟨rfl, rfl, rfl, rfl, rfl, rfl, rfl, trivial⟩, ⟨rfl, trivial⟩⟩
      · rintro out22 H
        replace H : message_Parts_J3 out22 = some q13 := H
        unfold message_Parts_J3 at H
        refine awp_plain hN rfl ?_
        refine seq_run0 (stp_add rfl rfl (by omega)) ?_
        refine seq_run0 (stp_move (.dat _) rfl) ?_
        exact ⟨_, backl H, ⟨rfl, rfl, rfl, rfl, rfl, rfl, rfl, trivial⟩, ⟨rfl, trivial⟩⟩
theorem k_cache_vary (a1 : S_api_Response) (r : ((List Bs) × Bool × Int)) (H : m_cache_vary a1 = some r) : Fn Tryz.prog 84 [vagg (C_api_Response a1)] (resOf [vlst (List.map C_string r.1), vbool r.2.1, vint r.2.2]) := by
  refine ⟨by kernel_rfl, pure_of (us := [vlst (List.map C_string r.1), vbool r.2.1, vint r.2.2]) Tryz.func84 rfl rfl rfl rfl fun X hN => ?_⟩
  unfold m_cache_vary at H
  refine awp_seq ?_
  refine awp_plain hN rfl ?_
  refine seq_run2 (stp_boxA 1 rfl) rfl ?_
  refine seq_run0 (stp_assign (.dat _) rfl) ?_
  refine seq_run0 (stp_assign (.dat _) rfl) ?_
  refine seq_run0 (stp_assign (.dat _) rfl) ?_
  refine awp_seq ?_
  refine awp_plain hN rfl ?_
  refine seq_run0 (stp_fldP tyF33_1 rfl) ?_
  refine seq_run1 (stp_load1 tyS28 rfl rfl) rfl ?_
  obtain ⟨r2, h3, H⟩ := bnd H
  refine seq_run0 (stp_call (k_message_Values a1.Headers [118, 97, 114, 121] r2 h3) ⟨.inl rfl, .inl rfl, trivial⟩) ?_
  obtain ⟨r4, h5, H⟩ := bnd H
  refine seq_callG (rn [(1, 2)]) [] [(1, _)] (kr_message_Parts r2 r4 h5) ⟨rfl, trivial⟩ ⟨.inl (.inl rfl), trivial⟩ trivial rfl ?_
  refine seq_run0 (stp_assign (.row _ _) rfl) ?_
  refine awp_seq ?_
  refine awp_seq ?_
  refine awp_plain hN rfl ?_
  refine seq_run0 (stp_move (.row _ _) rfl) ?_
  refine seq_run1 (t_lenR tyU48 rfl rfl) rfl ?_
  refine seq_run0 (stp_move (.dat _) rfl) ?_
  refine awp_block ?_
  obtain ⟨h9, H⟩ := gif H
  refine awp_rng (fun (k7 : Nat) (s : (List Bs)) => [(5, .row 2 s.length), (12, .row 2 s.length), (13, .dat (vint (r4.length : Int))), (14, .dat (vint (k7 : Int)))]) (fun (k7 : Nat) (s : (List Bs)) => [(2, .row 9 1 (List.map C_string s))]) r4 H ⟨rfl, rfl, rfl, rfl, trivial⟩ ⟨rfl, trivial⟩ (fun _ _ => rfl) ?_ ?_
  · rintro l6 H
    replace H : cache_vary_E1 l6 = some r := H
    unfold cache_vary_E1 at H
    refine awp_seq ?_
    refine awp_plain hN rfl ?_
    refine seq_run0 (stp_lss rfl rfl) ?_
    refine awp_seq ?_
    refine awp_cond _ rfl (fun h => (lt_t h).elim) (fun h => ?_)
    refine awp_exit ?_
    refine awp_seq ?_
    refine awp_seq ?_
    refine t_freeze 5 2 rfl rfl rfl ?_
    refine awp_plain hN rfl ?_
    refine seq_run0 (stp_move (.dat _) rfl) ?_
    obtain ⟨r10, h11, H⟩ := bnd H
    refine seq_run0 (stp_call (k_slices_Contains_L_string_string_ l6 [42] r10 h11) ⟨.inl rfl, .inl rfl, trivial⟩) ?_
    refine awp_cond _ rfl (fun h12 => ?_) (fun h12 => ?_)
    · replace H := ift h12 H
      refine awp_seq ?_
      refine awp_plain hN rfl ?_
      refine seq_run0 (stp_assign (.dat _) rfl) ?_
      refine seq_run0 (stp_assign (.dat _) rfl) ?_
      refine seq_run0 (stp_assign (.dat _) rfl) ?_
      refine awp_ret ?_
      cases H
      exact ⟨trivial, .inr ⟨rfl, rfl⟩, .inl rfl, .inl rfl, trivial⟩
    · replace H := iff_ h12 H
      refine awp_skip ?_
      refine awp_seq ?_
      refine awp_plain hN rfl ?_
      refine seq_run0 (stp_move (.dat _) rfl) ?_
      obtain ⟨r13, h14, H⟩ := bnd H
      refine seq_run0 (stp_call (k_kit_Rising l6 r13 h14) ⟨.inl rfl, trivial⟩) ?_
      refine seq_run0 (stp_assign (.dat _) rfl) ?_
      refine awp_seq ?_
      refine awp_seq ?_
      refine awp_plain hN rfl ?_
      refine seq_run0 (stp_move (.dat _) rfl) ?_
      refine seq_run0 (t_len tyU48 rfl) ?_
      refine seq_run0 (stp_gtr rfl rfl) ?_
      refine awp_cond _ rfl (fun h15 => ?_) (fun h15 => ?_)
      · replace H := ift h15 H
        refine awp_seq ?_
        refine awp_plain hN rfl ?_
        refine seq_run0 (stp_assign (.dat _) rfl) ?_
        refine seq_run0 (stp_assign (.dat _) rfl) ?_
        refine seq_run0 (stp_assign (.dat _) rfl) ?_
        refine awp_ret ?_
        cases H
        exact ⟨trivial, .inr ⟨rfl, rfl⟩, .inl rfl, .inl rfl, trivial⟩
      · replace H := iff_ h15 H
        refine awp_skip ?_
        refine awp_seq ?_
        refine awp_plain hN rfl ?_
        refine seq_run0 (stp_move (.dat _) rfl) ?_
        refine seq_run0 (stp_assign (.dat _) rfl) ?_
        refine seq_run0 (stp_assign (.dat _) rfl) ?_
        refine seq_run0 (stp_assign (.dat _) rfl) ?_
        refine awp_ret ?_
        cases H
        exact ⟨trivial, .inl rfl, .inl rfl, .inl rfl, trivial⟩
  · rintro k7 l6 q8 h16 H hq8
    replace H : cache_vary_L1 k7 l6 = some q8 := H
    unfold cache_vary_L1 at H
    refine awp_seq ?_
    refine awp_plain hN rfl ?_
    refine seq_run0 (stp_lss rfl rfl) ?_
    refine awp_seq ?_
    refine awp_cond _ rfl (fun h => ?_) (fun h => (lt_f h16 h).elim)
    refine awp_skip ?_
    refine awp_seq ?_
    refine awp_block ?_
    refine awp_seq ?_
    refine awp_plain hN rfl ?_
    refine seq_run0 (stp_move (.dat _) rfl) ?_
    obtain ⟨x17, h18, H⟩ := bnd H
    refine seq_run1 (t_idxR tyE48 rfl rfl rfl h18) rfl ?_
    refine seq_run1 (t_loadR1 tyS9 rfl rfl h18 rfl) rfl ?_
    refine seq_run0 (stp_assign (.dat _) rfl) ?_
    refine seq_run0 (stp_assign (.dat _) rfl) ?_
    refine awp_seq ?_
    refine awp_seq ?_
    refine awp_plain hN rfl ?_
    refine seq_run0 (stp_move (.dat _) rfl) ?_
    obtain ⟨r19, h20, H⟩ := bnd H
    refine seq_run0 (stp_call (k_message_IsToken x17 r19 h20) ⟨.inl rfl, trivial⟩) ?_
    refine seq_run0 (stp_not rfl) ?_
    refine awp_cond _ rfl (fun h21 => ?_) (fun h21 => ?_)
    · replace H := ift h21 H
      refine awp_seq ?_
      refine awp_plain hN rfl ?_
      refine seq_run0 (stp_assign (.dat _) rfl) ?_
      refine seq_run0 (stp_assign (.dat _) rfl) ?_
      refine seq_run0 (stp_assign (.dat _) rfl) ?_
      refine awp_ret ?_
      replace H := retl H hq8
      cases H
      exact ⟨trivial, .inr ⟨rfl, rfl⟩, .inl rfl, .inl rfl, trivial⟩
    · replace H := iff_ h21 H
      refine awp_skip ?_
      refine awp_plain hN rfl ?_
      refine seq_run0 (stp_move (.row _ _) rfl) ?_
      refine seq_run0 (stp_move (.dat _) rfl) ?_
      refine seq_run0 (stp_move (.dat _) rfl) ?_
      obtain ⟨r22, h23, H⟩ := bnd H
      refine seq_run0 (stp_call (k_strings_ToLower x17 r22 h23) ⟨.inl rfl, trivial⟩) ?_
      refine seq_run1 (t_idxR tyE48 rfl rfl rfl h18) rfl ?_
      refine seq_run2 (t_storeR r22 tyS9 rfl rfl rfl rfl h18 rfl rfl) rfl ?_
      refine awp_plain hN rfl ?_
      refine seq_run0 (stp_add rfl rfl (by omega)) ?_
      refine seq_run0 (stp_move (.dat _) rfl) ?_
      exact ⟨_, backl H, ⟨congrArg (Slot.row 2) (by simp), congrArg (Slot.row 2) (by simp), rfl, rfl, trivial⟩, ⟨rfl, trivial⟩⟩
theorem k_cache_lifetime (c1 : S_api_Control) (r : (Int)) (H : m_cache_lifetime c1 = some r) : Fn Tryz.prog 85 [vagg (C_api_Control c1)] (resOf [vint r]) := by
  refine ⟨by kernel_rfl, pure_of (us := [vint r]) Tryz.func85 rfl rfl rfl rfl fun X hN => ?_⟩
  unfold m_cache_lifetime at H
  refine awp_seq ?_
  refine awp_plain hN rfl ?_
  refine seq_run2 (stp_boxA 1 rfl) rfl ?_
  refine seq_run0 (stp_assign (.dat _) rfl) ?_
  refine awp_seq ?_
  refine awp_block ?_
  refine awp_seq ?_
  refine awp_plain hN rfl ?_
  refine seq_run0 (stp_fldP tyF102_1 rfl) ?_
  refine seq_run1 (stp_load1 tyS4 rfl rfl) rfl ?_
  refine seq_run0 (stp_assign (.dat _) rfl) ?_
  refine awp_cond _ rfl (fun h2 => ?_) (fun h2 => ?_)
  · replace H := ift h2 H
    refine awp_seq ?_
    refine awp_plain hN rfl ?_
    refine seq_run0 (stp_assign (.dat _) rfl) ?_
    refine awp_ret ?_
    cases H
    exact ⟨trivial, .inl rfl, trivial⟩
  · replace H := iff_ h2 H
    refine awp_seq ?_
    refine awp_plain hN rfl ?_
    refine seq_run0 (stp_fldP tyF102_7 rfl) ?_
    refine seq_run1 (stp_load1 tyS3 rfl rfl) rfl ?_
    refine seq_run0 (stp_neq rfl rfl) ?_
    refine seq_run0 (stp_assign (.dat _) rfl) ?_
    refine awp_cond _ rfl (fun h3 => ?_) (fun h3 => ?_)
    · replace H := ift h3 H
      refine awp_seq ?_
      refine awp_plain hN rfl ?_
      refine seq_run0 (stp_fldP tyF102_7 rfl) ?_
      refine seq_run1 (stp_load1 tyS3 rfl rfl) rfl ?_
      refine seq_run0 (stp_wrap _ rfl rfl (.inr (.inr ⟨rfl, rfl⟩))) ?_
      refine seq_run0 (stp_assign (.dat _) rfl) ?_
      refine awp_ret ?_
      cases H
      exact ⟨trivial, .inl rfl, trivial⟩
    · replace H := iff_ h3 H
      refine awp_seq ?_
      refine awp_plain hN rfl ?_
      refine seq_run0 (stp_fldP tyF102_6 rfl) ?_
      refine seq_run1 (stp_load1 tyS3 rfl rfl) rfl ?_
      refine seq_run0 (stp_neq rfl rfl) ?_
      refine seq_run0 (stp_assign (.dat _) rfl) ?_
      refine awp_cond _ rfl (fun h4 => ?_) (fun h4 => ?_)
      · replace H := ift h4 H
        refine awp_seq ?_
        refine awp_plain hN rfl ?_
        refine seq_run0 (stp_fldP tyF102_6 rfl) ?_
        refine seq_run1 (stp_load1 tyS3 rfl rfl) rfl ?_
        refine seq_run0 (stp_wrap _ rfl rfl (.inr (.inr ⟨rfl, rfl⟩))) ?_
        refine seq_run0 (stp_assign (.dat _) rfl) ?_
        refine awp_ret ?_
        cases H
        exact ⟨trivial, .inl rfl, trivial⟩
      · replace H := iff_ h4 H
        refine awp_skip ?_
        refine awp_seq ?_
        refine awp_plain hN rfl ?_
        refine seq_run0 (stp_assign (.dat _) rfl) ?_
        refine awp_ret ?_
        cases H
        exact ⟨trivial, .inl rfl, trivial⟩
theorem k_cache_Lifetime (a1 : S_api_Response) (r : (Int × Int)) (H : m_cache_Lifetime a1 = some r) : Fn Tryz.prog 46 [vagg (C_api_Response a1)] (resOf [vint r.1, vint r.2]) := by
  refine ⟨by kernel_rfl, pure_of (us := [vint r.1, vint r.2]) Tryz.func46 rfl rfl rfl rfl fun X hN => ?_⟩
  unfold m_cache_Lifetime at H
  refine awp_seq ?_
  refine awp_plain hN rfl ?_
  refine seq_run2 (stp_boxA 1 rfl) rfl ?_
  refine seq_run0 (stp_assign (.dat _) rfl) ?_
  refine seq_run0 (stp_assign (.dat _) rfl) ?_
  refine awp_seq ?_
  refine awp_seq ?_
  refine awp_plain hN rfl ?_
  refine seq_run1 (stp_loadA tyS33 rfl rfl rfl) rfl ?_
  obtain ⟨r2, h3, H⟩ := bnd H
  refine seq_run0 (stp_call (k_message_CheckResponse a1 r2 h3) ⟨.inl rfl, trivial⟩) ?_
  refine seq_run0 (stp_assign (.dat _) rfl) ?_
  refine awp_seq ?_
  refine awp_plain hN rfl ?_
  refine seq_run0 (stp_move (.dat _) rfl) ?_
  refine seq_run0 (stp_neq rfl rfl) ?_
  refine awp_cond _ rfl (fun h4 => ?_) (fun h4 => ?_)
  · replace H := ift h4 H
    refine awp_seq ?_
    refine awp_plain hN rfl ?_
    refine seq_run0 (stp_move (.dat _) rfl) ?_
    refine seq_run0 (stp_assign (.dat _) rfl) ?_
    refine seq_run0 (stp_assign (.dat _) rfl) ?_
    refine awp_ret ?_
    cases H
    exact ⟨trivial, .inl rfl, .inl rfl, trivial⟩
  · replace H := iff_ h4 H
    refine awp_skip ?_
    refine awp_seq ?_
    refine awp_plain hN rfl ?_
    refine seq_run0 (stp_fldP tyF33_1 rfl) ?_
    refine seq_run1 (stp_load1 tyS28 rfl rfl) rfl ?_
    obtain ⟨r5, h6, H⟩ := bnd H
    refine seq_run0 (stp_call (k_cache_parse a1.Headers r5 h6) ⟨.inl rfl, trivial⟩) ?_
    refine seq_run0 (stp_move (.dat _) rfl) ?_
    refine seq_run0 (stp_ext rfl rfl) ?_
    refine seq_run0 (stp_ext rfl rfl) ?_
    refine seq_run2 (stp_alloc 2 tyZ102 rfl) rfl ?_
    refine seq_run2 (stp_storeW tyS102 rfl rfl rfl rfl) rfl ?_
    refine seq_run0 (stp_assign (.dat _) rfl) ?_
    refine awp_seq ?_
    refine awp_seq ?_
    refine awp_plain hN rfl ?_
    refine seq_run0 (stp_move (.dat _) rfl) ?_
    refine seq_run0 (stp_neq rfl rfl) ?_
    refine awp_cond _ rfl (fun h7 => ?_) (fun h7 => ?_)
    · replace H := ift h7 H
      refine awp_seq ?_
      refine awp_plain hN rfl ?_
      refine seq_run0 (stp_move (.dat _) rfl) ?_
      refine seq_run0 (stp_assign (.dat _) rfl) ?_
      refine seq_run0 (stp_assign (.dat _) rfl) ?_
      refine awp_ret ?_
      cases H
      exact ⟨trivial, .inl rfl, .inl rfl, trivial⟩
    · replace H := iff_ h7 H
      refine awp_skip ?_
      refine awp_seq ?_
      refine awp_seq ?_
      refine awp_plain hN rfl ?_
      refine seq_run1 (stp_loadA tyS33 rfl rfl rfl) rfl ?_
      obtain ⟨r8, h9, H⟩ := bnd H
      refine seq_run0 (stp_call (k_cache_vary a1 r8 h9) ⟨.inl rfl, trivial⟩) ?_
      refine seq_run0 (stp_move (.dat _) rfl) ?_
      refine seq_run0 (stp_ext rfl rfl) ?_
      refine seq_run0 (stp_ext rfl rfl) ?_
      refine seq_run0 (stp_ext rfl rfl) ?_
      refine seq_run0 (stp_assign (.dat _) rfl) ?_
      refine seq_run0 (stp_assign (.dat _) rfl) ?_
      refine seq_run0 (stp_assign (.dat _) rfl) ?_
      refine awp_seq ?_
      refine awp_plain hN rfl ?_
      refine seq_run0 (stp_move (.dat _) rfl) ?_
      refine seq_run0 (stp_neq rfl rfl) ?_
      refine awp_cond _ rfl (fun h10 => ?_) (fun h10 => ?_)
      · replace H := ift h10 H
        refine awp_seq ?_
        refine awp_plain hN rfl ?_
        refine seq_run0 (stp_move (.dat _) rfl) ?_
        refine seq_run0 (stp_assign (.dat _) rfl) ?_
        refine seq_run0 (stp_assign (.dat _) rfl) ?_
        refine awp_ret ?_
        cases H
        exact ⟨trivial, .inl rfl, .inl rfl, trivial⟩
      · replace H := iff_ h10 H
        refine awp_skip ?_
        refine awp_seq ?_
        refine awp_plain hN rfl ?_
        refine seq_run1 (stp_loadA tyS102 rfl rfl rfl) rfl ?_
        obtain ⟨r11, h12, H⟩ := bnd H
        refine seq_run0 (stp_call (k_cache_lifetime r5.1 r11 h12) ⟨.inl rfl, trivial⟩) ?_
        refine seq_run0 (stp_assign (.dat _) rfl) ?_
        refine seq_run0 (stp_assign (.dat _) rfl) ?_
        refine awp_ret ?_
        cases H
        exact ⟨trivial, .inl rfl, .inl rfl, trivial⟩
theorem k_gatelaw2_kept  (r : (Bool)) (H : m_gatelaw2_kept  = some r) : Fn Tryz.prog 15 [] (resOf [vbool r]) := by
  refine ⟨by kernel_rfl, pure_of (us := [vbool r]) Tryz.func15 rfl rfl rfl rfl fun X hN => ?_⟩
  unfold m_gatelaw2_kept at H
  refine awp_seq ?_
  refine awp_plain hN rfl ?_
  refine seq_run0 (stp_assign (.dat _) rfl) ?_
  refine awp_seq ?_
  refine awp_plain hN rfl ?_
  refine seq_run0 (stp_dat (u' := vagg (C_api_Header (S_api_Header.mk [99, 97, 99, 104, 101, 45, 99, 111, 110, 116, 114, 111, 108] [109, 97, 120, 45, 97, 103, 101, 61, 50]))) (stp_build [(0, [vstr [99, 97, 99, 104, 101, 45, 99, 111, 110, 116, 114, 111, 108]]), (1, [vstr [109, 97, 120, 45, 97, 103, 101, 61, 50]])] tyZ51 tyP51 rfl ⟨rfl, .inl ⟨_, rfl, rfl, rfl⟩, rfl, rfl, .inl ⟨_, rfl, rfl, rfl⟩, rfl, trivial⟩) rfl) ?_
  refine seq_run0 (stp_dat (u' := vlst (List.map C_api_Header [(S_api_Header.mk [99, 97, 99, 104, 101, 45, 99, 111, 110, 116, 114, 111, 108] [109, 97, 120, 45, 97, 103, 101, 61, 50])])) (stp_lit [_] tyL28 ⟨rfl, .inr rfl, rfl, trivial⟩ rfl rfl) rfl) ?_
  refine seq_run0 (stp_dat (u' := vagg (C_api_Response (S_api_Response.mk 200 ([(S_api_Header.mk [99, 97, 99, 104, 101, 45, 99, 111, 110, 116, 114, 111, 108] [109, 97, 120, 45, 97, 103, 101, 61, 50])]) []))) (stp_build [(0, [vint 200]), (1, [vlst (List.map C_api_Header ([(S_api_Header.mk [99, 97, 99, 104, 101, 45, 99, 111, 110, 116, 114, 111, 108] [109, 97, 120, 45, 97, 103, 101, 61, 50])]))])] tyZ33 tyP33 rfl ⟨rfl, .inl ⟨_, rfl, rfl, rfl⟩, rfl, rfl, .inl ⟨_, rfl, rfl, rfl⟩, rfl, trivial⟩) rfl) ?_
  obtain ⟨r1, h2, H⟩ := bnd H
  refine seq_run0 (stp_call (k_cache_Lifetime (S_api_Response.mk 200 ([(S_api_Header.mk [99, 97, 99, 104, 101, 45, 99, 111, 110, 116, 114, 111, 108] [109, 97, 120, 45, 97, 103, 101, 61, 50])]) []) r1 h2) ⟨.inl rfl, trivial⟩) ?_
  refine seq_run0 (stp_move (.dat _) rfl) ?_
  refine seq_run0 (stp_ext rfl rfl) ?_
  refine seq_run0 (stp_ext rfl rfl) ?_
  refine seq_run0 (stp_assign (.dat _) rfl) ?_
  refine seq_run0 (stp_assign (.dat _) rfl) ?_
  refine awp_seq ?_
  refine awp_plain hN rfl ?_
  refine seq_run0 (stp_move (.dat _) rfl) ?_
  refine seq_run0 (stp_eql rfl rfl) ?_
  refine seq_run0 (stp_move (.dat _) rfl) ?_
  refine seq_aT rfl rfl (fun hc => stp_move (.dat _) rfl) ?_
  refine seq_aT rfl rfl (fun hc => stp_eql (cnd (c := (decide (r1.2 = 0))) hc) rfl) ?_
  refine seq_run0 (stp_pick_and rfl (fun hb => (cnd (c := (decide (r1.2 = 0))) hb)) rfl) ?_
  refine seq_run0 (stp_assign (.dat _) rfl) ?_
  refine awp_ret ?_
  cases H
  exact ⟨trivial, .inl rfl, trivial⟩
theorem k_gatelaw2_TagsMatch (v1 : (List Int)) (r : (Bool)) (H : m_gatelaw2_TagsMatch v1 = some r) : Fn Tryz.prog 3 [vlst (List.map C_int v1)] (resOf [vbool r]) := by
  refine ⟨by kernel_rfl, pure_of (us := [vbool r]) Tryz.func3 rfl rfl rfl rfl fun X hN => ?_⟩
  unfold m_gatelaw2_TagsMatch at H
  refine awp_seq ?_
  refine awp_plain hN rfl ?_
  refine seq_run0 (stp_assign (.dat _) rfl) ?_
  refine awp_seq ?_
  refine awp_plain hN rfl ?_
  refine seq_run0 (stp_move (.dat _) rfl) ?_
  refine seq_run0 (stp_dat (u' := vagg (C_gatemake_Stream (S_gatemake_Stream.mk v1 0))) (stp_build [(0, [vlst (List.map C_int v1)])] tyZ25 tyP25 rfl ⟨rfl, .inl ⟨_, rfl, rfl, rfl⟩, rfl, trivial⟩) rfl) ?_
  refine seq_run2 (stp_boxA 1 rfl) rfl ?_
  refine seq_run0 (stp_assign (.ptr _ _) rfl) ?_
  refine awp_seq ?_
  refine awp_plain hN rfl ?_
  refine seq_run0 (stp_move (.ptr _ _) rfl) ?_
  obtain ⟨r2, h3, H⟩ := bnd H
  refine seq_run2 (stp_imp (k_gatemake_Stream_TagHeader (S_gatemake_Stream.mk v1 0) r2 h3) rfl trivial rfl) rfl ?_
  refine seq_run0 (stp_move (.ptr _ _) rfl) ?_
  refine seq_run0 (stp_dat (u' := vlst (List.map C_string [[34, 97, 34], [87, 47, 34, 97, 34], [34, 98, 34], [34, 34], [97], [], [34, 97, 44, 98, 34], [87, 47]])) (stp_lit [[_], [_], [_], [_], [_], [_], [_], [_]] tyL48 ⟨rfl, .inl ⟨_, rfl, rfl, rfl⟩, rfl, rfl, .inl ⟨_, rfl, rfl, rfl⟩, rfl, rfl, .inl ⟨_, rfl, rfl, rfl⟩, rfl, rfl, .inl ⟨_, rfl, rfl, rfl⟩, rfl, rfl, .inl ⟨_, rfl, rfl, rfl⟩, rfl, rfl, .inl ⟨_, rfl, rfl, rfl⟩, rfl, rfl, .inl ⟨_, rfl, rfl, rfl⟩, rfl, rfl, .inl ⟨_, rfl, rfl, rfl⟩, rfl, trivial⟩ rfl rfl) rfl) ?_
  obtain ⟨r4, h5, H⟩ := bnd H
  refine seq_run2 (stp_imp (k_gatemake_Stream_Some r2.2 ([[34, 97, 34], [87, 47, 34, 97, 34], [34, 98, 34], [34, 34], [97], [], [34, 97, 44, 98, 34], [87, 47]]) r4 h5) rfl ⟨.inl rfl, trivial⟩ rfl) rfl ?_
  refine seq_run0 (stp_assign (.dat _) rfl) ?_
  refine seq_run0 (stp_assign (.dat _) rfl) ?_
  refine awp_seq ?_
  refine awp_plain hN rfl ?_
  refine seq_run0 (stp_move (.ptr _ _) rfl) ?_
  obtain ⟨r6, h7, H⟩ := bnd H
  refine seq_run2 (stp_imp (k_gatemake_Stream_CacheRequest r4.2 0 r6 h7) rfl ⟨.inl rfl, trivial⟩ rfl) rfl ?_
  refine seq_run0 (stp_move (.ptr _ _) rfl) ?_
  obtain ⟨r8, h9, H⟩ := bnd H
  refine seq_run2 (stp_imp (k_gatemake_Stream_CacheResponse r6.2 r8 h9) rfl trivial rfl) rfl ?_
  refine seq_run2 (stp_alloc 2 tyZ30 rfl) rfl ?_
  refine seq_run2 (stp_alloc 3 tyZ33 rfl) rfl ?_
  refine seq_run2 (stp_storeW tyS30 rfl rfl rfl rfl) rfl ?_
  refine seq_run2 (stp_storeW tyS33 rfl rfl rfl rfl) rfl ?_
  refine awp_seq ?_
  refine awp_plain hN rfl ?_
  refine seq_run0 (stp_move (.dat _) rfl) ?_
  refine seq_run0 (stp_move (.dat _) rfl) ?_
  obtain ⟨r10, h11, H⟩ := bnd H
  refine seq_run0 (stp_call (k_cache_Matches r2.1 r4.1 r10 h11) ⟨.inl rfl, .inl rfl, trivial⟩) ?_
  refine seq_run0 (stp_move (.dat _) rfl) ?_
  refine seq_run0 (stp_ext rfl rfl) ?_
  refine seq_run0 (stp_ext rfl rfl) ?_
  refine seq_run0 (stp_assign (.dat _) rfl) ?_
  refine seq_run0 (stp_assign (.dat _) rfl) ?_
  refine awp_seq ?_
  refine awp_plain hN rfl ?_
  refine seq_run0 (stp_move (.dat _) rfl) ?_
  refine seq_run0 (stp_move (.dat _) rfl) ?_
  obtain ⟨r12, h13, H⟩ := bnd H
  refine seq_run0 (stp_call (k_gateref2_MatchesOf r2.1 r4.1 r12 h13) ⟨.inl rfl, .inl rfl, trivial⟩) ?_
  refine seq_run0 (stp_move (.dat _) rfl) ?_
  refine seq_run0 (stp_ext rfl rfl) ?_
  refine seq_run0 (stp_ext rfl rfl) ?_
  refine seq_run0 (stp_assign (.dat _) rfl) ?_
  refine seq_run0 (stp_assign (.dat _) rfl) ?_
  refine awp_seq ?_
  refine awp_plain hN rfl ?_
  refine seq_run1 (stp_loadA tyS30 rfl rfl rfl) rfl ?_
  refine seq_run1 (stp_loadA tyS33 rfl rfl rfl) rfl ?_
  obtain ⟨r14, h15, H⟩ := bnd H
  refine seq_run0 (stp_call (k_cache_Unchanged r6.1 r8.1 r14 h15) ⟨.inl rfl, .inl rfl, trivial⟩) ?_
  refine seq_run0 (stp_move (.dat _) rfl) ?_
  refine seq_run0 (stp_ext rfl rfl) ?_
  refine seq_run0 (stp_ext rfl rfl) ?_
  refine seq_run0 (stp_assign (.dat _) rfl) ?_
  refine seq_run0 (stp_assign (.dat _) rfl) ?_
  refine awp_seq ?_
  refine awp_draw mixed hN rfl rfl ?_
  refine seq_run1 (stp_loadA tyS30 rfl rfl rfl) rfl ?_
  obtain ⟨r16, h17, H⟩ := bnd H
  refine seq_run0 (stp_call (k_gateref2_RequestFault r6.1 r16 h17) ⟨.inl rfl, trivial⟩) ?_
  refine seq_run1 (stp_loadA tyS33 rfl rfl rfl) rfl ?_
  obtain ⟨r18, h19, H⟩ := bnd H
  refine seq_run0 (stp_call (k_gateref2_ResponseFault r8.1 r18 h19) ⟨.inl rfl, trivial⟩) ?_
  refine seq_run0 (stp_dat (u' := vlst (List.map C_api_Errno [r16, r18])) (stp_lit [[_], [_]] tyL62 ⟨rfl, .inl ⟨_, rfl, rfl, rfl⟩, rfl, rfl, .inl ⟨_, rfl, rfl, rfl⟩, rfl, trivial⟩ rfl rfl) rfl) ?_
  obtain ⟨r20, h21, H⟩ := bnd H
  refine seq_run0 (stp_call (k_gatelaw2_errs [r16, r18] r20 h21) ⟨.inl rfl, trivial⟩) ?_
  refine seq_run0 (stp_assign (.dat _) rfl) ?_
  refine ⟨rfl, ?_⟩
  refine awp_joinE (ι := Bool) (fun i => [(2, .dat (vbool i))]) (fun i => []) (fun i => gatelaw2_TagsMatch_J1 i = some r) (fun i => rfl) ?_ ?_
  · skip
    refine awp_plain hN rfl ?_
    refine seq_run0 (stp_move (.dat _) rfl) ?_
    refine seq_run0 (stp_move (.dat _) rfl) ?_
    refine seq_run0 (stp_beql tyU4 rfl rfl) ?_
    refine seq_run0 (stp_move (.dat _) rfl) ?_
    refine seq_split (j := 3) rfl rfl (fun h22 => ?_) (fun h22 => ?_) rfl
    · have h23 := un1 h22
      replace H := ift h23 H
      refine seq_g0 rfl rfl h22 (stp_move (.dat _) rfl) ?_
      refine seq_g0 rfl rfl h22 (stp_move (.dat _) rfl) ?_
      refine seq_g0 rfl rfl h22 (stp_eql rfl rfl) ?_
      refine seq_run0 (stp_pick_t rfl (bTT h23) rfl) ?_
      refine seq_run0 (stp_move (.dat _) rfl) ?_
      refine seq_split (j := 8) rfl rfl (fun h24 => ?_) (fun h24 => ?_) rfl
      · have h25 := un1 h24
        replace H := ift h25 H
        refine seq_g0 rfl rfl h24 (stp_move (.dat _) rfl) ?_
        refine seq_g0 rfl rfl h24 (stp_move (.dat _) rfl) ?_
        refine seq_g0 rfl rfl h24 (stp_eql rfl rfl) ?_
        refine seq_run0 (stp_pick_t rfl (bTT h25) rfl) ?_
        refine seq_run0 (stp_move (.dat _) rfl) ?_
        refine seq_split (j := 13) rfl rfl (fun h26 => ?_) (fun h26 => ?_) rfl
        · have h27 := un1 h26
          replace H := ift h27 H
          refine seq_g0 rfl rfl h26 (stp_move (.dat _) rfl) ?_
          refine seq_g0 rfl rfl h26 (stp_move (.dat _) rfl) ?_
          refine seq_g0 rfl rfl h26 (stp_eql rfl rfl) ?_
          refine seq_g0 rfl rfl h26 (stp_move (.dat _) rfl) ?_
          refine seq_split (j := 17) rfl rfl (fun h28 => ?_) (fun h28 => ?_) rfl
          · have h29 := un1 h28
            replace H := ift h29 H
            refine seq_g1 rfl rfl h28 (stp_loadA tyS30 rfl rfl rfl) rfl ?_
            refine seq_g1 rfl rfl h28 (stp_loadA tyS33 rfl rfl rfl) rfl ?_
            obtain ⟨r30, h31, H⟩ := bnd H
            refine seq_g0 rfl rfl h28 (stp_call (k_gateref2_UnchangedOf r6.1 r8.1 r30 h31) ⟨.inl rfl, .inl rfl, trivial⟩) ?_
            refine seq_g0 rfl rfl h26 (stp_pick_t rfl (bTT h29) rfl) ?_
            refine seq_g0 rfl rfl h26 (stp_beql tyU4 rfl rfl) ?_
            refine seq_run0 (stp_pick_t rfl (bTT h27) rfl) ?_
            refine seq_run0 (stp_move (.dat _) rfl) ?_
            refine seq_split (j := 24) rfl rfl (fun h32 => ?_) (fun h32 => ?_) rfl
            · have h33 := un1 h32
              replace H := ift h33 H
              obtain ⟨r34, h35, H⟩ := bnd H
              refine seq_g0 rfl rfl h32 (stp_call (k_gatelaw2_kept  r34 h35) trivial) ?_
              refine seq_run0 (stp_pick_t rfl (bTT h33) rfl) ?_
              refine seq_run0 (stp_assign (.dat _) rfl) ?_
              exact ⟨r34, H, ⟨rfl, trivial⟩, trivial⟩
            · have h36 := un2 h32
              replace H := iff_ h36 H
              refine seq_skip rfl rfl h32 ?_
              refine seq_run0 (stp_pick_f rfl (bFF h36) rfl) ?_
              refine seq_run0 (stp_assign (.dat _) rfl) ?_
              exact ⟨false, H, ⟨rfl, trivial⟩, trivial⟩
          · have h37 := un2 h28
            replace H := iff_ h37 H
            refine seq_skip rfl rfl h28 ?_
            refine seq_skip rfl rfl h28 ?_
            refine seq_skip rfl rfl h28 ?_
            refine seq_g0 rfl rfl h26 (stp_pick_f rfl (bFF h37) rfl) ?_
            refine seq_g0 rfl rfl h26 (stp_beql tyU4 rfl rfl) ?_
            refine seq_run0 (stp_pick_t rfl (bTT h27) rfl) ?_
            refine seq_run0 (stp_move (.dat _) rfl) ?_
            refine seq_split (j := 24) rfl rfl (fun h38 => ?_) (fun h38 => ?_) rfl
            · have h39 := un1 h38
              replace H := ift h39 H
              obtain ⟨r40, h41, H⟩ := bnd H
              refine seq_g0 rfl rfl h38 (stp_call (k_gatelaw2_kept  r40 h41) trivial) ?_
              refine seq_run0 (stp_pick_t rfl (bTT h39) rfl) ?_
              refine seq_run0 (stp_assign (.dat _) rfl) ?_
              exact ⟨r40, H, ⟨rfl, trivial⟩, trivial⟩
            · have h42 := un2 h38
              replace H := iff_ h42 H
              refine seq_skip rfl rfl h38 ?_
              refine seq_run0 (stp_pick_f rfl (bFF h42) rfl) ?_
              refine seq_run0 (stp_assign (.dat _) rfl) ?_
              exact ⟨false, H, ⟨rfl, trivial⟩, trivial⟩
        · have h43 := un2 h26
          replace H := iff_ h43 H
          refine seq_skip rfl rfl h26 ?_
          refine seq_skip rfl rfl h26 ?_
          refine seq_skip rfl rfl h26 ?_
          refine seq_skip rfl rfl h26 ?_
          refine seq_skipU rfl rfl ?_
          refine seq_skipU rfl rfl ?_
          refine seq_skipU rfl rfl ?_
          refine seq_skip rfl rfl h26 ?_
          refine seq_skip rfl rfl h26 ?_
          refine seq_run0 (stp_pick_f rfl (bFF h43) rfl) ?_
          refine seq_run0 (stp_move (.dat _) rfl) ?_
          refine seq_skip rfl rfl rfl ?_
          refine seq_run0 (stp_pick_f rfl rfl rfl) ?_
          refine seq_run0 (stp_assign (.dat _) rfl) ?_
          exact ⟨false, H, ⟨rfl, trivial⟩, trivial⟩
      · have h44 := un2 h24
        replace H := iff_ h44 H
        refine seq_skip rfl rfl h24 ?_
        refine seq_skip rfl rfl h24 ?_
        refine seq_skip rfl rfl h24 ?_
        refine seq_run0 (stp_pick_f rfl (bFF h44) rfl) ?_
        refine seq_run0 (stp_move (.dat _) rfl) ?_
        refine seq_skip rfl rfl rfl ?_
        refine seq_skip rfl rfl rfl ?_
        refine seq_skip rfl rfl rfl ?_
        refine seq_skip rfl rfl rfl ?_
        refine seq_skipU rfl rfl ?_
        refine seq_skipU rfl rfl ?_
        refine seq_skipU rfl rfl ?_
        refine seq_skip rfl rfl rfl ?_
        refine seq_skip rfl rfl rfl ?_
        refine seq_run0 (stp_pick_f rfl rfl rfl) ?_
        refine seq_run0 (stp_move (.dat _) rfl) ?_
        refine seq_skip rfl rfl rfl ?_
        refine seq_run0 (stp_pick_f rfl rfl rfl) ?_
        refine seq_run0 (stp_assign (.dat _) rfl) ?_
        exact ⟨false, H, ⟨rfl, trivial⟩, trivial⟩
    · have h45 := un2 h22
      replace H := iff_ h45 H
      refine seq_skip rfl rfl h22 ?_
      refine seq_skip rfl rfl h22 ?_
      refine seq_skip rfl rfl h22 ?_
      refine seq_run0 (stp_pick_f rfl (bFF h45) rfl) ?_
      refine seq_run0 (stp_move (.dat _) rfl) ?_
      refine seq_skip rfl rfl rfl ?_
      refine seq_skip rfl rfl rfl ?_
      refine seq_skip rfl rfl rfl ?_
      refine seq_run0 (stp_pick_f rfl rfl rfl) ?_
      refine seq_run0 (stp_move (.dat _) rfl) ?_
      refine seq_skip rfl rfl rfl ?_
      refine seq_skip rfl rfl rfl ?_
      refine seq_skip rfl rfl rfl ?_
      refine seq_skip rfl rfl rfl ?_
      refine seq_skipU rfl rfl ?_
      refine seq_skipU rfl rfl ?_
      refine seq_skipU rfl rfl ?_
      refine seq_skip rfl rfl rfl ?_
      refine seq_skip rfl rfl rfl ?_
      refine seq_run0 (stp_pick_f rfl rfl rfl) ?_
      refine seq_run0 (stp_move (.dat _) rfl) ?_
      refine seq_skip rfl rfl rfl ?_
      refine seq_run0 (stp_pick_f rfl rfl rfl) ?_
      refine seq_run0 (stp_assign (.dat _) rfl) ?_
      exact ⟨false, H, ⟨rfl, trivial⟩, trivial⟩
  · rintro v46 H
    replace H : gatelaw2_TagsMatch_J1 v46 = some r := H
    unfold gatelaw2_TagsMatch_J1 at H
    refine awp_ret ?_
    cases H
    exact ⟨trivial, .inl rfl, trivial⟩
end Go.Proofs.YtbicifgfibafmaaGreatDoor
