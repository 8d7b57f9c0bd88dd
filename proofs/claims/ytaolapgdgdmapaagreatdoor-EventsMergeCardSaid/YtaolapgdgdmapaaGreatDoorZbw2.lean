/- Walks along the models. Printed by a program. -/
import Derived.Test.YtaolapgdgdmapaaGreatDoorZbw1
namespace Go.Proofs.YtaolapgdgdmapaaGreatDoor
open Go.RowKit
set_option linter.unusedVariables false
set_option maxRecDepth 20000
set_option maxHeartbeats 2000000
theorem kt_slices_insertionSortCmpFunc_api_Event_ (data1 : (List S_api_Event)) (a2 : Int) (b3 : Int) (p3 : S_api_Event → S_api_Event → Option (Int)) (fv3 : Nat) (us3 : List V) (hp3 : ∀ a0 a1 r, p3 a0 a1 = some r → Fn Tryz.prog fv3 ([vagg (C_api_Event a0), vagg (C_api_Event a1)] ++ us3) (resOf [vint r])) (r : ((List S_api_Event))) (H : m_slices_insertionSortCmpFunc_api_Event_ data1 a2 b3 p3 = some r) : FnG Tryz.prog 88 [.row 0 data1.length, .dat (vint a2), .dat (vint b3), .dat (vfn fv3 us3)] [(0, .rowA undef 40 5 (List.map C_api_Event data1))] (.dat (resOf [])) [(0, .rowA undef 40 5 (List.map C_api_Event r))] := by
 refine fnG_of (by kernel_rfl) Tryz.func88 rfl rfl rfl rfl fun X A hN => ?_
 unfold m_slices_insertionSortCmpFunc_api_Event_ at H
 refine awp_seq ?_
 refine awp_plain hN rfl ?_
 refine qd rfl ?_
 refine seq_run0 (stp_wrap _ rfl rfl (.inl ⟨rfl, rfl⟩)) ?_
 refine qe rfl ?_
 refine awp_block ?_
 refine awp_iter (fun (s : Int × (List S_api_Event)) => [(0, .row 0 s.2.length), (1, .dat (vint a2)), (2, .dat (vint b3)), (3, .dat (vfn fv3 us3)), (8, .dat (vint s.1))]) (fun (s : Int × (List S_api_Event)) => [(0, .rowA (A.vl 0) 40 5 (List.map C_api_Event s.2))]) (wr (a2 + 1), data1) H ⟨rfl, rfl, rfl, rfl, rfl, trivial⟩ ⟨rfl, trivial⟩ (fun _ => rfl) ?_
 rintro ⟨i4, l5⟩ q6 H hq6
 replace H : slices_insertionSortCmpFunc_api_Event__L1 a2 b3 p3 i4 l5 = some q6 := H
 unfold slices_insertionSortCmpFunc_api_Event__L1 at H
 refine awp_seq ?_
 refine awp_seq ?_
 refine awp_plain hN rfl ?_
 refine qd rfl ?_
 refine qd rfl ?_
 refine seq_run0 (stp_lss rfl rfl) ?_
 refine awp_cond _ rfl (fun h7 => ?_) (fun h7 => ?_)
 ·replace H := ift h7 H
  refine awp_skip ?_
  refine awp_joinE (ι := (List S_api_Event)) (fun i => [(0, .row 0 i.length), (1, .dat (vint a2)), (2, .dat (vint b3)), (3, .dat (vfn fv3 us3)), (8, .dat (vint i4))]) (fun i => [(0, .rowA (A.vl 0) 40 5 (List.map C_api_Event i))]) (fun i => slices_insertionSortCmpFunc_api_Event__J2 i4 i = some q6) (fun i => rfl) ?_ ?_
  ·skip
   refine awp_block ?_
   refine awp_seq ?_
   refine awp_plain hN rfl ?_
   refine qd rfl ?_
   refine qe rfl ?_
   refine awp_block ?_
   refine awp_iter (fun (s : Int × (List S_api_Event)) => [(0, .row 0 s.2.length), (1, .dat (vint a2)), (2, .dat (vint b3)), (3, .dat (vfn fv3 us3)), (8, .dat (vint i4)), (9, .dat (vint s.1))]) (fun (s : Int × (List S_api_Event)) => [(0, .rowA (A.vl 0) 40 5 (List.map C_api_Event s.2))]) (i4, l5) H ⟨rfl, rfl, rfl, rfl, rfl, rfl, trivial⟩ ⟨rfl, trivial⟩ (fun _ => rfl) ?_
   rintro ⟨j8, l9⟩ q10 H hq10
   replace H : slices_insertionSortCmpFunc_api_Event__L3 a2 p3 i4 j8 l9 = some q10 := H
   unfold slices_insertionSortCmpFunc_api_Event__L3 at H
   refine awp_seq ?_
   refine awp_joinE (ι := Bool) (fun i => [(0, .row 0 l9.length), (1, .dat (vint a2)), (2, .dat (vint b3)), (3, .dat (vfn fv3 us3)), (8, .dat (vint i4)), (9, .dat (vint j8)), (34, .dat (vbool i))]) (fun i => [(0, .rowA (A.vl 0) 40 5 (List.map C_api_Event l9))]) (fun i => slices_insertionSortCmpFunc_api_Event__J4 i4 j8 l9 i = some q10) (fun i => rfl) ?_ ?_
   ·skip
    refine awp_draw mixed hN rfl rfl ?_
    refine qd rfl ?_
    refine qd rfl ?_
    refine seq_run0 (stp_gtr rfl rfl) ?_
    refine qd rfl ?_
    refine seq_split (j := 3) rfl rfl (fun h11 => ?_) (fun h11 => ?_) rfl
    ·have h12 := un1 h11
     replace H := ift h12 H
     refine seq_g0 rfl rfl h11 (stp_move (.dat _) rfl) ?_
     refine seq_g0 rfl rfl h11 (stp_move (.row _ _) rfl) ?_
     refine seq_g0 rfl rfl h11 (stp_move (.dat _) rfl) ?_
     obtain ⟨x13, h14, H⟩ := bnd H
     refine seq_g1 rfl rfl h11 (t_idxTI tyE31 rfl rfl rfl h14) rfl ?_
     refine seq_g1 rfl rfl h11 (t_loadTA tyS40 rfl rfl (at_some h14).2 rfl) rfl ?_
     refine seq_g0 rfl rfl h11 (stp_move (.row _ _) rfl) ?_
     refine seq_g0 rfl rfl h11 (stp_move (.dat _) rfl) ?_
     refine seq_g0 rfl rfl h11 (stp_wrap _ rfl rfl (.inr (.inl ⟨rfl, rfl⟩))) ?_
     obtain ⟨x15, h16, H⟩ := bnd H
     refine seq_g1 rfl rfl h11 (t_idxTI tyE31 rfl rfl rfl h16) rfl ?_
     refine seq_g1 rfl rfl h11 (t_loadTA tyS40 rfl rfl (at_some h16).2 rfl) rfl ?_
     obtain ⟨r17, h18, H⟩ := bnd H
     refine seq_g0 rfl rfl h11 (stp_callv (hp3 x13 x15 r17 h18) rfl ⟨.inl rfl, .inl rfl, trivial⟩) ?_
     refine seq_g0 rfl rfl h11 (stp_lss rfl rfl) ?_
     refine seq_run0 (stp_pick_t rfl (bTT h12) rfl) ?_
     refine ⟨rfl, ?_⟩
     exact ⟨decide (r17 < 0), H, ⟨rfl, rfl, rfl, rfl, rfl, rfl, rfl, trivial⟩, ⟨rfl, trivial⟩⟩
    ·have h19 := un2 h11
     replace H := iff_ h19 H
     refine seq_skip rfl rfl h11 ?_
     refine seq_skip rfl rfl h11 ?_
     refine seq_skip rfl rfl h11 ?_
     refine seq_skip rfl rfl h11 ?_
     refine seq_skip rfl rfl h11 ?_
     refine seq_skip rfl rfl h11 ?_
     refine seq_skip rfl rfl h11 ?_
     refine seq_skip rfl rfl h11 ?_
     refine seq_skip rfl rfl h11 ?_
     refine seq_skip rfl rfl h11 ?_
     refine seq_skip rfl rfl h11 ?_
     refine seq_skip rfl rfl h11 ?_
     refine seq_run0 (stp_pick_f rfl (bFF h19) rfl) ?_
     refine ⟨rfl, ?_⟩
     exact ⟨false, H, ⟨rfl, rfl, rfl, rfl, rfl, rfl, rfl, trivial⟩, ⟨rfl, trivial⟩⟩
   ·rintro v20 H
    replace H : slices_insertionSortCmpFunc_api_Event__J4 i4 j8 l9 v20 = some q10 := H
    unfold slices_insertionSortCmpFunc_api_Event__J4 at H
    refine awp_cond _ rfl (fun h21 => ?_) (fun h21 => ?_)
    ·replace H := ift h21 H
     refine awp_skip ?_
     refine awp_seq ?_
     refine awp_block ?_
     refine awp_draw mixed hN rfl rfl ?_
     refine seq_run0 (stp_move (.row _ _) rfl) ?_
     refine qd rfl ?_
     refine seq_run0 (stp_move (.row _ _) rfl) ?_
     refine qd rfl ?_
     refine seq_run0 (stp_wrap _ rfl rfl (.inr (.inl ⟨rfl, rfl⟩))) ?_
     refine seq_run0 (stp_move (.row _ _) rfl) ?_
     refine qd rfl ?_
     refine seq_run0 (stp_wrap _ rfl rfl (.inr (.inl ⟨rfl, rfl⟩))) ?_
     obtain ⟨x22, h23, H⟩ := bnd H
     refine seq_run1 (t_idxTI tyE31 rfl rfl rfl h23) rfl ?_
     refine seq_run1 (t_loadTA tyS40 rfl rfl (at_some h23).2 rfl) rfl ?_
     refine seq_run0 (stp_move (.row _ _) rfl) ?_
     refine qd rfl ?_
     obtain ⟨x24, h25, H⟩ := bnd H
     refine seq_run1 (t_idxTI tyE31 rfl rfl rfl h25) rfl ?_
     refine seq_run1 (t_loadTA tyS40 rfl rfl (at_some h25).2 rfl) rfl ?_
     refine seq_run1 (t_idxTI tyE31 rfl rfl rfl h25) rfl ?_
     refine seq_run2 (t_storeTA (C := C_api_Event) tyS40 rfl rfl rfl (at_lt (at_some h25).2) rfl rfl) rfl ?_
     obtain ⟨x26, h27, H⟩ := bnd H
     refine seq_run1 (t_idxTI tyE31 rfl (by simp) rfl h27) rfl ?_
     refine seq_run2 (t_storeTA (C := C_api_Event) tyS40 rfl rfl (by simp) (at_lt (at_some h27).2) rfl rfl) rfl ?_
     refine ⟨rfl, ?_⟩
     refine awp_plain hN rfl ?_
     refine qd rfl ?_
     refine seq_run0 (stp_wrap _ rfl rfl (.inr (.inl ⟨rfl, rfl⟩))) ?_
     refine qe rfl ?_
     exact ⟨_, backl H, ⟨congrArg (Slot.row 0) (by simp), rfl, rfl, rfl, rfl, rfl, trivial⟩, ⟨rfl, trivial⟩⟩
    ·replace H := iff_ h21 H
     refine awp_exit ?_
     replace H := outl H hq10
     exact ⟨l9, H, ⟨rfl, rfl, rfl, rfl, rfl, trivial⟩, ⟨rfl, trivial⟩⟩
  ·rintro data28 H
   replace H : slices_insertionSortCmpFunc_api_Event__J2 i4 data28 = some q6 := H
   unfold slices_insertionSortCmpFunc_api_Event__J2 at H
   refine awp_plain hN rfl ?_
   refine qd rfl ?_
   refine seq_run0 (stp_wrap _ rfl rfl (.inl ⟨rfl, rfl⟩)) ?_
   refine qe rfl ?_
   exact ⟨_, backl H, ⟨rfl, rfl, rfl, rfl, rfl, trivial⟩, ⟨rfl, trivial⟩⟩
 ·replace H := iff_ h7 H
  refine awp_exit ?_
  replace H := retl H hq6
  have eH : l5 = r := Option.some.inj H
  subst eH
  exact ⟨trivial, [], trivial, ⟨rfl, trivial⟩, rfl, .inl ⟨[], trivial, rfl⟩⟩
theorem kt_slices_stableCmpFunc_api_Event_ (data1 : (List S_api_Event)) (n2 : Int) (p2 : S_api_Event → S_api_Event → Option (Int)) (fv2 : Nat) (us2 : List V) (hp2 : ∀ a0 a1 r, p2 a0 a1 = some r → Fn Tryz.prog fv2 ([vagg (C_api_Event a0), vagg (C_api_Event a1)] ++ us2) (resOf [vint r])) (r : ((List S_api_Event))) (H : m_slices_stableCmpFunc_api_Event_ data1 n2 p2 = some r) : FnG Tryz.prog 59 [.row 0 data1.length, .dat (vint n2), .dat (vfn fv2 us2)] [(0, .rowA undef 40 5 (List.map C_api_Event data1))] (.dat (resOf [])) [(0, .rowA undef 40 5 (List.map C_api_Event r))] := by
 refine fnG_of (by kernel_rfl) Tryz.func59 rfl rfl rfl rfl fun X A hN => ?_
 unfold m_slices_stableCmpFunc_api_Event_ at H
 refine awp_seq ?_
 refine awp_plain hN rfl ?_
 refine qe rfl ?_
 refine awp_seq ?_
 refine awp_plain hN rfl ?_
 refine qd rfl ?_
 refine qe rfl ?_
 refine qe rfl ?_
 refine awp_joinE (ι := Int × (List S_api_Event)) (fun i => [(0, .row 0 i.2.length), (1, .dat (vint n2)), (2, .dat (vfn fv2 us2)), (6, .dat (vint 20)), (7, .dat (vint i.1))]) (fun i => [(0, .rowA (A.vl 0) 40 5 (List.map C_api_Event i.2))]) (fun i => slices_stableCmpFunc_api_Event__J1 n2 p2 i.1 i.2 = some r) (fun i => rfl) ?_ ?_
 ·skip
  refine awp_block ?_
  refine awp_iter (fun (s : Int × Int × (List S_api_Event)) => [(0, .row 0 s.2.2.length), (1, .dat (vint n2)), (2, .dat (vfn fv2 us2)), (6, .dat (vint 20)), (7, .dat (vint s.1)), (8, .dat (vint s.2.1))]) (fun (s : Int × Int × (List S_api_Event)) => [(0, .rowA (A.vl 0) 40 5 (List.map C_api_Event s.2.2))]) (0, 20, data1) H ⟨rfl, rfl, rfl, rfl, rfl, rfl, trivial⟩ ⟨rfl, trivial⟩ (fun _ => rfl) ?_
  rintro ⟨a3, b4, l5⟩ q6 H hq6
  replace H : slices_stableCmpFunc_api_Event__L2 n2 p2 a3 b4 l5 = some q6 := H
  unfold slices_stableCmpFunc_api_Event__L2 at H
  refine awp_seq ?_
  refine awp_seq ?_
  refine awp_plain hN rfl ?_
  refine qd rfl ?_
  refine qd rfl ?_
  refine seq_run0 (stp_leq rfl rfl) ?_
  refine awp_cond _ rfl (fun h7 => ?_) (fun h7 => ?_)
  ·replace H := ift h7 H
   refine awp_skip ?_
   refine awp_block ?_
   refine awp_seq ?_
   refine awp_plain hN rfl ?_
   refine seq_run0 (stp_move (.row _ _) rfl) ?_
   refine qd rfl ?_
   refine qd rfl ?_
   refine qd rfl ?_
   obtain ⟨r8, h9, H⟩ := bnd H
   obtain ⟨h10, H⟩ := gif H
   refine seq_callG (rn [(0, 0)]) [(0, _, _, some _)] [] (kt_slices_insertionSortCmpFunc_api_Event_ l5 a3 b4 p2 fv2 us2 hp2 r8 h9) ⟨rfl, trivial⟩ ⟨.inl (.inl rfl), .inl (.inl rfl), .inl (.inl rfl), .inl (.inl rfl), trivial⟩ ⟨⟨⟨rfl, rfl, rfl⟩, by simp [stayP, h10]⟩, trivial⟩ rfl ?_
   refine awp_seq ?_
   refine awp_plain hN rfl ?_
   refine qd rfl ?_
   refine qe rfl ?_
   refine awp_plain hN rfl ?_
   refine qd rfl ?_
   refine qd rfl ?_
   refine seq_run0 (stp_wrap _ rfl rfl (.inl ⟨rfl, rfl⟩)) ?_
   refine qe rfl ?_
   exact ⟨_, backl H, ⟨congrArg (Slot.row 0) ((h10).symm).symm, rfl, rfl, rfl, rfl, rfl, trivial⟩, ⟨rfl, trivial⟩⟩
  ·replace H := iff_ h7 H
   refine awp_exit ?_
   replace H := outl H hq6
   exact ⟨(a3, l5), H, ⟨rfl, rfl, rfl, rfl, rfl, trivial⟩, ⟨rfl, trivial⟩⟩
 ·rintro ⟨a11, data12⟩ H
  replace H : slices_stableCmpFunc_api_Event__J1 n2 p2 a11 data12 = some r := H
  unfold slices_stableCmpFunc_api_Event__J1 at H
  refine awp_seq ?_
  refine awp_plain hN rfl ?_
  refine seq_run0 (stp_move (.row _ _) rfl) ?_
  refine qd rfl ?_
  refine qd rfl ?_
  refine qd rfl ?_
  obtain ⟨r13, h14, H⟩ := bnd H
  obtain ⟨h15, H⟩ := gif H
  refine seq_callG (rn [(0, 0)]) [(0, _, _, some _)] [] (kt_slices_insertionSortCmpFunc_api_Event_ data12 a11 n2 p2 fv2 us2 hp2 r13 h14) ⟨rfl, trivial⟩ ⟨.inl (.inl rfl), .inl (.inl rfl), .inl (.inl rfl), .inl (.inl rfl), trivial⟩ ⟨⟨⟨rfl, rfl, rfl⟩, by simp [stayP, h15]⟩, trivial⟩ rfl ?_
  refine awp_block ?_
  refine awp_iter (fun (s : Int) => [(0, .row 0 data12.length), (1, .dat (vint n2)), (2, .dat (vfn fv2 us2)), (6, .dat (vint s))]) (fun (s : Int) => [(0, .rowA (A.vl 0) 40 5 (List.map C_api_Event r13))]) 20 H ⟨rfl, rfl, rfl, rfl, trivial⟩ ⟨rfl, trivial⟩ (fun _ => rfl) ?_
  rintro blockSize16 q17 H hq17
  replace H : slices_stableCmpFunc_api_Event__L3 n2 r13 blockSize16 = some q17 := H
  unfold slices_stableCmpFunc_api_Event__L3 at H
  refine awp_seq ?_
  refine awp_seq ?_
  refine awp_plain hN rfl ?_
  refine qd rfl ?_
  refine qd rfl ?_
  refine seq_run0 (stp_lss rfl rfl) ?_
  refine awp_cond _ rfl (fun h18 => ?_) (fun h18 => ?_)
  ·replace H := ift h18 H
   refine awp_skip ?_
   refine awp_block ?_
   refine awp_seq ?_
   refine awp_plain hN rfl ?_
   refine qd rfl ?_
   refine seq_run0 (stp_wrap _ rfl rfl (.inr (.inr ⟨rfl, rfl⟩))) ?_
   refine qe rfl ?_
   refine qe rfl ?_
   refine awp_joinE (ι := Int) (fun i => [(0, .row 0 data12.length), (1, .dat (vint n2)), (2, .dat (vfn fv2 us2)), (6, .dat (vint blockSize16)), (7, .dat (vint i))]) (fun i => [(0, .rowA (A.vl 0) 40 5 (List.map C_api_Event r13))]) (fun i => slices_stableCmpFunc_api_Event__J4 n2 blockSize16 i = some q17) (fun i => rfl) ?_ ?_
   ·skip
    refine awp_block ?_
    refine awp_iter (fun (s : Int × Int) => [(0, .row 0 data12.length), (1, .dat (vint n2)), (2, .dat (vfn fv2 us2)), (6, .dat (vint blockSize16)), (7, .dat (vint s.1)), (8, .dat (vint s.2))]) (fun (s : Int × Int) => [(0, .rowA (A.vl 0) 40 5 (List.map C_api_Event r13))]) (0, wr (2 * blockSize16)) H ⟨rfl, rfl, rfl, rfl, rfl, rfl, trivial⟩ ⟨rfl, trivial⟩ (fun _ => rfl) ?_
    rintro ⟨a19, b20⟩ q21 H hq21
    replace H : slices_stableCmpFunc_api_Event__L5 n2 blockSize16 a19 b20 = some q21 := H
    unfold slices_stableCmpFunc_api_Event__L5 at H
    refine awp_seq ?_
    refine awp_seq ?_
    refine awp_plain hN rfl ?_
    refine qd rfl ?_
    refine qd rfl ?_
    refine seq_run0 (stp_leq rfl rfl) ?_
    refine awp_cond _ rfl (fun h22 => ?_) (fun h22 => ?_)
    ·replace H := ift h22 H
     cases H
    ·replace H := iff_ h22 H
     refine awp_exit ?_
     replace H := outl H hq21
     exact ⟨a19, H, ⟨rfl, rfl, rfl, rfl, rfl, trivial⟩, ⟨rfl, trivial⟩⟩
   ·rintro a23 H
    replace H : slices_stableCmpFunc_api_Event__J4 n2 blockSize16 a23 = some q17 := H
    unfold slices_stableCmpFunc_api_Event__J4 at H
    refine awp_joinE (ι := Unit) (fun i => [(0, .row 0 data12.length), (1, .dat (vint n2)), (2, .dat (vfn fv2 us2)), (6, .dat (vint blockSize16))]) (fun i => [(0, .rowA (A.vl 0) 40 5 (List.map C_api_Event r13))]) (fun i => slices_stableCmpFunc_api_Event__J6 blockSize16 = some q17) (fun i => rfl) ?_ ?_
    ·skip
     refine awp_seq ?_
     refine awp_plain hN rfl ?_
     refine qd rfl ?_
     refine qd rfl ?_
     refine seq_run0 (stp_wrap _ rfl rfl (.inl ⟨rfl, rfl⟩)) ?_
     refine qe rfl ?_
     refine awp_seq ?_
     refine awp_plain hN rfl ?_
     refine qd rfl ?_
     refine qd rfl ?_
     refine seq_run0 (stp_lss rfl rfl) ?_
     refine awp_cond _ rfl (fun h24 => ?_) (fun h24 => ?_)
     ·replace H := ift h24 H
      cases H
     ·replace H := iff_ h24 H
      refine awp_skip ?_
      exact ⟨(), H, ⟨rfl, rfl, rfl, rfl, trivial⟩, ⟨rfl, trivial⟩⟩
    ·rintro ⟨⟩ H
     replace H : slices_stableCmpFunc_api_Event__J6 blockSize16 = some q17 := H
     unfold slices_stableCmpFunc_api_Event__J6 at H
     refine awp_plain hN rfl ?_
     refine qd rfl ?_
     refine seq_run0 (stp_wrap _ rfl rfl (.inr (.inr ⟨rfl, rfl⟩))) ?_
     refine qe rfl ?_
     exact ⟨_, backl H, ⟨rfl, rfl, rfl, rfl, trivial⟩, ⟨rfl, trivial⟩⟩
  ·replace H := iff_ h18 H
   refine awp_exit ?_
   replace H := retl H hq17
   have eH : r13 = r := Option.some.inj H
   subst eH
   exact ⟨trivial, [], trivial, ⟨rfl, trivial⟩, rfl, .inl ⟨[], trivial, rfl⟩⟩
theorem kt_slices_SortStableFunc_L_api_Event_api_Event_ (x1 : (List S_api_Event)) (p1 : S_api_Event → S_api_Event → Option (Int)) (fv1 : Nat) (us1 : List V) (hp1 : ∀ a0 a1 r, p1 a0 a1 = some r → Fn Tryz.prog fv1 ([vagg (C_api_Event a0), vagg (C_api_Event a1)] ++ us1) (resOf [vint r])) (r : ((List S_api_Event))) (H : m_slices_SortStableFunc_L_api_Event_api_Event_ x1 p1 = some r) : FnG Tryz.prog 31 [.row 0 x1.length, .dat (vfn fv1 us1)] [(0, .rowA undef 40 5 (List.map C_api_Event x1))] (.dat (resOf [])) [(0, .rowA undef 40 5 (List.map C_api_Event r))] := by
 refine fnG_of (by kernel_rfl) Tryz.func31 rfl rfl rfl rfl fun X A hN => ?_
 unfold m_slices_SortStableFunc_L_api_Event_api_Event_ at H
 refine awp_plain hN rfl ?_
 refine seq_run0 (stp_move (.row _ _) rfl) ?_
 refine seq_run0 (stp_move (.row _ _) rfl) ?_
 refine seq_run1 (t_lenT tyU31 rfl rfl) rfl ?_
 refine qd rfl ?_
 obtain ⟨r2, h3, H⟩ := bnd H
 obtain ⟨h4, H⟩ := gif H
 refine seq_callG (rn [(0, 0)]) [(0, _, _, some _)] [] (kt_slices_stableCmpFunc_api_Event_ x1 (x1.length : Int) p1 fv1 us1 hp1 r2 h3) ⟨rfl, trivial⟩ ⟨.inl (.inl rfl), .inl (.inl rfl), .inl (.inl rfl), trivial⟩ ⟨⟨⟨rfl, rfl, rfl⟩, by simp [stayP, h4]⟩, trivial⟩ rfl ?_
 have eH : r2 = r := Option.some.inj H
 subst eH
 exact ⟨trivial, [], trivial, ⟨rfl, trivial⟩, rfl, .inl ⟨[], trivial, rfl⟩⟩
theorem k_gateref2_sign (n1 : Int) (r : (Int)) (H : m_gateref2_sign n1 = some r) : Fn Tryz.prog 60 [vint n1] (resOf [vint r]) := by
 refine ⟨by kernel_rfl, pure_of (us := [vint r]) Tryz.func60 rfl rfl rfl rfl fun X hN => ?_⟩
 unfold m_gateref2_sign at H
 refine awp_seq ?_
 refine awp_plain hN rfl ?_
 refine qe rfl ?_
 refine awp_seq ?_
 refine awp_block ?_
 refine awp_seq ?_
 refine awp_plain hN rfl ?_
 refine qd rfl ?_
 refine seq_run0 (stp_lss rfl rfl) ?_
 refine qe rfl ?_
 refine awp_cond _ rfl (fun h2 => ?_) (fun h2 => ?_)
 ·replace H := ift h2 H
  refine awp_seq ?_
  refine awp_plain hN rfl ?_
  refine qe rfl ?_
  refine awp_ret ?_
  cases H
  exact ⟨trivial, .inl rfl, trivial⟩
 ·replace H := iff_ h2 H
  refine awp_seq ?_
  refine awp_plain hN rfl ?_
  refine qd rfl ?_
  refine seq_run0 (stp_gtr rfl rfl) ?_
  refine qe rfl ?_
  refine awp_cond _ rfl (fun h3 => ?_) (fun h3 => ?_)
  ·replace H := ift h3 H
   refine awp_seq ?_
   refine awp_plain hN rfl ?_
   refine qe rfl ?_
   refine awp_ret ?_
   cases H
   exact ⟨trivial, .inl rfl, trivial⟩
  ·replace H := iff_ h3 H
   refine awp_skip ?_
   refine awp_seq ?_
   refine awp_plain hN rfl ?_
   refine qe rfl ?_
   refine awp_ret ?_
   cases H
   exact ⟨trivial, .inl rfl, trivial⟩
theorem k_cmp_isNaN_string_ (x1 : Bs) (r : (Bool)) (H : m_cmp_isNaN_string_ x1 = some r) : Fn Tryz.prog 119 [vstr x1] (resOf [vbool r]) := by
 refine ⟨by kernel_rfl, pure_of (us := [vbool r]) Tryz.func119 rfl rfl rfl rfl fun X hN => ?_⟩
 unfold m_cmp_isNaN_string_ at H
 refine awp_seq ?_
 refine awp_plain hN rfl ?_
 refine qe rfl ?_
 refine awp_seq ?_
 refine awp_plain hN rfl ?_
 refine qd rfl ?_
 refine qd rfl ?_
 refine seq_run0 (stp_sneq rfl rfl) ?_
 refine qe rfl ?_
 refine awp_ret ?_
 cases H
 exact ⟨trivial, .inl rfl, trivial⟩
theorem k_cmp_Compare_string_ (x1 : Bs) (y2 : Bs) (r : (Int)) (H : m_cmp_Compare_string_ x1 y2 = some r) : Fn Tryz.prog 90 [vstr x1, vstr y2] (resOf [vint r]) := by
 refine ⟨by kernel_rfl, pure_of (us := [vint r]) Tryz.func90 rfl rfl rfl rfl fun X hN => ?_⟩
 unfold m_cmp_Compare_string_ at H
 refine awp_seq ?_
 refine awp_plain hN rfl ?_
 refine qe rfl ?_
 refine awp_seq ?_
 refine awp_plain hN rfl ?_
 refine qd rfl ?_
 obtain ⟨r3, h4, H⟩ := bnd H
 refine seq_run0 (stp_call (k_cmp_isNaN_string_ x1 r3 h4) ⟨.inl rfl, trivial⟩) ?_
 refine qe rfl ?_
 refine awp_seq ?_
 refine awp_plain hN rfl ?_
 refine qd rfl ?_
 obtain ⟨r5, h6, H⟩ := bnd H
 refine seq_run0 (stp_call (k_cmp_isNaN_string_ y2 r5 h6) ⟨.inl rfl, trivial⟩) ?_
 refine qe rfl ?_
 refine awp_seq ?_
 refine awp_seq ?_
 refine awp_plain hN rfl ?_
 refine qd rfl ?_
 refine awp_cond _ rfl (fun h7 => ?_) (fun h7 => ?_)
 ·replace H := ift h7 H
  refine awp_seq ?_
  refine awp_seq ?_
  refine awp_plain hN rfl ?_
  refine qd rfl ?_
  refine awp_cond _ rfl (fun h8 => ?_) (fun h8 => ?_)
  ·replace H := ift h8 H
   refine awp_seq ?_
   refine awp_plain hN rfl ?_
   refine qe rfl ?_
   refine awp_ret ?_
   cases H
   exact ⟨trivial, .inl rfl, trivial⟩
  ·replace H := iff_ h8 H
   refine awp_skip ?_
   refine awp_seq ?_
   refine awp_plain hN rfl ?_
   refine qe rfl ?_
   refine awp_ret ?_
   cases H
   exact ⟨trivial, .inl rfl, trivial⟩
 ·replace H := iff_ h7 H
  refine awp_skip ?_
  refine awp_seq ?_
  refine awp_seq ?_
  refine awp_plain hN rfl ?_
  refine qd rfl ?_
  refine awp_cond _ rfl (fun h9 => ?_) (fun h9 => ?_)
  ·replace H := ift h9 H
   refine awp_seq ?_
   refine awp_plain hN rfl ?_
   refine qe rfl ?_
   refine awp_ret ?_
   cases H
   exact ⟨trivial, .inl rfl, trivial⟩
  ·replace H := iff_ h9 H
   refine awp_skip ?_
   refine awp_seq ?_
   refine awp_seq ?_
   refine awp_plain hN rfl ?_
   refine qd rfl ?_
   refine qd rfl ?_
   refine seq_run0 (stp_slss rfl rfl) ?_
   refine awp_cond _ rfl (fun h10 => ?_) (fun h10 => ?_)
   ·replace H := ift h10 H
    refine awp_seq ?_
    refine awp_plain hN rfl ?_
    refine qe rfl ?_
    refine awp_ret ?_
    cases H
    exact ⟨trivial, .inl rfl, trivial⟩
   ·replace H := iff_ h10 H
    refine awp_skip ?_
    refine awp_seq ?_
    refine awp_seq ?_
    refine awp_plain hN rfl ?_
    refine qd rfl ?_
    refine qd rfl ?_
    refine seq_run0 (stp_sgtr rfl rfl) ?_
    refine awp_cond _ rfl (fun h11 => ?_) (fun h11 => ?_)
    ·replace H := ift h11 H
     refine awp_seq ?_
     refine awp_plain hN rfl ?_
     refine qe rfl ?_
     refine awp_ret ?_
     cases H
     exact ⟨trivial, .inl rfl, trivial⟩
    ·replace H := iff_ h11 H
     refine awp_skip ?_
     refine awp_seq ?_
     refine awp_plain hN rfl ?_
     refine qe rfl ?_
     refine awp_ret ?_
     cases H
     exact ⟨trivial, .inl rfl, trivial⟩
theorem k_slices_Compare_L_string_string_ (s1 : (List Bs)) (s2 : (List Bs)) (r : (Int)) (H : m_slices_Compare_L_string_string_ s1 s2 = some r) : Fn Tryz.prog 61 [vlst (List.map C_string s1), vlst (List.map C_string s2)] (resOf [vint r]) := by
 refine ⟨by kernel_rfl, pure_of (us := [vint r]) Tryz.func61 rfl rfl rfl rfl fun X hN => ?_⟩
 unfold m_slices_Compare_L_string_string_ at H
 refine awp_seq ?_
 refine awp_plain hN rfl ?_
 refine qe rfl ?_
 refine awp_seq ?_
 refine awp_seq ?_
 refine awp_plain hN rfl ?_
 refine qd rfl ?_
 refine seq_run0 (t_len tyU61 rfl) ?_
 refine qd rfl ?_
 refine awp_block ?_
 obtain ⟨h5, H⟩ := gif H
 refine awp_forL (fun (k3 : Nat) (s : Unit) => [(0, .dat (vlst (List.map C_string s1))), (1, .dat (vlst (List.map C_string s2))), (9, .dat (vlst (List.map C_string s1))), (10, .dat (vint (s1.length : Int))), (11, .dat (vint (k3 : Int)))]) (fun (k3 : Nat) (s : Unit) => []) () H ⟨rfl, rfl, rfl, rfl, rfl, trivial⟩ trivial (fun _ _ => rfl) ?_ ?_
 ·rintro ⟨⟩ H
  replace H : slices_Compare_L_string_string__E1 s1 s2 = some r := H
  unfold slices_Compare_L_string_string__E1 at H
  refine awp_seq ?_
  refine awp_plain hN rfl ?_
  refine seq_run0 (stp_lss rfl rfl) ?_
  refine awp_seq ?_
  refine awp_cond _ rfl (fun h => (lt_t h).elim) (fun h => ?_)
  refine awp_exit ?_
  refine awp_seq ?_
  refine awp_seq ?_
  refine awp_plain hN rfl ?_
  refine qd rfl ?_
  refine seq_run0 (t_len tyU61 rfl) ?_
  refine qd rfl ?_
  refine seq_run0 (t_len tyU61 rfl) ?_
  refine seq_run0 (stp_lss rfl rfl) ?_
  refine awp_cond _ rfl (fun h7 => ?_) (fun h7 => ?_)
  ·replace H := ift h7 H
   refine awp_seq ?_
   refine awp_plain hN rfl ?_
   refine qe rfl ?_
   refine awp_ret ?_
   cases H
   exact ⟨trivial, .inl rfl, trivial⟩
  ·replace H := iff_ h7 H
   refine awp_skip ?_
   refine awp_seq ?_
   refine awp_plain hN rfl ?_
   refine qe rfl ?_
   refine awp_ret ?_
   cases H
   exact ⟨trivial, .inl rfl, trivial⟩
 ·rintro k3 x6 ⟨⟩ q4 h8 h9 H hq4
  replace H : slices_Compare_L_string_string__L1 s2 k3 x6 = some q4 := H
  unfold slices_Compare_L_string_string__L1 at H
  refine awp_seq ?_
  refine awp_plain hN rfl ?_
  refine seq_run0 (stp_lss rfl rfl) ?_
  refine awp_seq ?_
  refine awp_cond _ rfl (fun h => ?_) (fun h => (lt_f h8 h).elim)
  refine awp_skip ?_
  refine awp_seq ?_
  refine awp_block ?_
  refine awp_seq ?_
  refine awp_plain hN rfl ?_
  refine qd rfl ?_
  refine seq_run0 (t_idx tyE61 (fun _ => rfl) rfl rfl h9) ?_
  refine seq_run0 (stp_loadE1 tyS9 rfl (map_at h9) rfl) ?_
  refine qe rfl ?_
  refine qe rfl ?_
  refine awp_seq ?_
  refine awp_seq ?_
  refine awp_plain hN rfl ?_
  refine qd rfl ?_
  refine qd rfl ?_
  refine seq_run0 (t_len tyU61 rfl) ?_
  refine seq_run0 (stp_geq rfl rfl) ?_
  refine awp_cond _ rfl (fun h10 => ?_) (fun h10 => ?_)
  ·replace H := ift h10 H
   refine awp_seq ?_
   refine awp_plain hN rfl ?_
   refine qe rfl ?_
   refine awp_ret ?_
   replace H := retl H hq4
   cases H
   exact ⟨trivial, .inl rfl, trivial⟩
  ·replace H := iff_ h10 H
   refine awp_skip ?_
   refine awp_seq ?_
   refine awp_plain hN rfl ?_
   refine qd rfl ?_
   refine qd rfl ?_
   obtain ⟨x11, h12, H⟩ := bnd H
   refine seq_run0 (t_idx tyE61 (fun _ => rfl) rfl rfl h12) ?_
   refine seq_run0 (stp_loadE1 tyS9 rfl (map_at h12) rfl) ?_
   refine qe rfl ?_
   refine awp_seq ?_
   refine awp_plain hN rfl ?_
   refine qd rfl ?_
   refine qd rfl ?_
   obtain ⟨r13, h14, H⟩ := bnd H
   refine seq_run0 (stp_call (k_cmp_Compare_string_ x6 x11 r13 h14) ⟨.inl rfl, .inl rfl, trivial⟩) ?_
   refine qe rfl ?_
   refine awp_seq ?_
   refine awp_plain hN rfl ?_
   refine qd rfl ?_
   refine seq_run0 (stp_neq rfl rfl) ?_
   refine awp_cond _ rfl (fun h15 => ?_) (fun h15 => ?_)
   ·replace H := ift h15 H
    refine awp_seq ?_
    refine awp_plain hN rfl ?_
    refine qd rfl ?_
    refine qe rfl ?_
    refine awp_ret ?_
    replace H := retl H hq4
    cases H
    exact ⟨trivial, .inl rfl, trivial⟩
   ·replace H := iff_ h15 H
    refine awp_skip ?_
    refine awp_plain hN rfl ?_
    refine seq_run0 (stp_add rfl rfl (by omega)) ?_
    refine qd rfl ?_
    exact ⟨_, backl H, ⟨rfl, rfl, rfl, rfl, rfl, trivial⟩, trivial⟩
theorem k_gateref2_EventOrder (a1 : S_api_Event) (b2 : S_api_Event) (r : (Int)) (H : m_gateref2_EventOrder a1 b2 = some r) : Fn Tryz.prog 32 [vagg (C_api_Event a1), vagg (C_api_Event b2)] (resOf [vint r]) := by
 refine ⟨by kernel_rfl, pure_of (us := [vint r]) Tryz.func32 rfl rfl rfl rfl fun X hN => ?_⟩
 unfold m_gateref2_EventOrder at H
 refine awp_seq ?_
 refine awp_plain hN rfl ?_
 refine seq_run2 (stp_boxA 1 rfl) rfl ?_
 refine seq_run2 (stp_boxA 2 rfl) rfl ?_
 refine qe rfl ?_
 refine awp_seq ?_
 refine awp_seq ?_
 refine awp_plain hN rfl ?_
 refine seq_run0 (stp_fldP tyF40_0 rfl) ?_
 refine seq_run1 (stp_load1 tyS3 rfl rfl) rfl ?_
 refine seq_run0 (stp_fldP tyF40_0 rfl) ?_
 refine seq_run1 (stp_load1 tyS3 rfl rfl) rfl ?_
 refine seq_run0 (stp_neq rfl rfl) ?_
 refine awp_cond _ rfl (fun h3 => ?_) (fun h3 => ?_)
 ·replace H := ift h3 H
  refine awp_seq ?_
  refine awp_plain hN rfl ?_
  refine seq_run0 (stp_fldP tyF40_0 rfl) ?_
  refine seq_run1 (stp_load1 tyS3 rfl rfl) rfl ?_
  refine seq_run0 (stp_fldP tyF40_0 rfl) ?_
  refine seq_run1 (stp_load1 tyS3 rfl rfl) rfl ?_
  refine seq_run0 (stp_wrap _ rfl rfl (.inr (.inl ⟨rfl, rfl⟩))) ?_
  obtain ⟨r4, h5, H⟩ := bnd H
  refine seq_run0 (stp_call (k_gateref2_sign (wr (a1.At - b2.At)) r4 h5) ⟨.inl rfl, trivial⟩) ?_
  refine qe rfl ?_
  refine awp_ret ?_
  cases H
  exact ⟨trivial, .inl rfl, trivial⟩
 ·replace H := iff_ h3 H
  refine awp_skip ?_
  refine awp_seq ?_
  refine awp_plain hN rfl ?_
  refine seq_run0 (stp_fldP tyF40_1 rfl) ?_
  refine seq_run1 (stp_load1 tyS9 rfl rfl) rfl ?_
  refine seq_run0 (stp_fldP tyF40_2 rfl) ?_
  refine seq_run1 (stp_load1 tyS9 rfl rfl) rfl ?_
  refine seq_run0 (stp_dat (u' := vlst (List.map C_string [a1.App, a1.Product])) (stp_lit [[_], [_]] tyL61 ⟨rfl, .inl ⟨_, rfl, rfl, rfl⟩, rfl, rfl, .inl ⟨_, rfl, rfl, rfl⟩, rfl, trivial⟩ rfl rfl) rfl) ?_
  refine seq_run0 (stp_fldP tyF40_1 rfl) ?_
  refine seq_run1 (stp_load1 tyS9 rfl rfl) rfl ?_
  refine seq_run0 (stp_fldP tyF40_2 rfl) ?_
  refine seq_run1 (stp_load1 tyS9 rfl rfl) rfl ?_
  refine seq_run0 (stp_dat (u' := vlst (List.map C_string [b2.App, b2.Product])) (stp_lit [[_], [_]] tyL61 ⟨rfl, .inl ⟨_, rfl, rfl, rfl⟩, rfl, rfl, .inl ⟨_, rfl, rfl, rfl⟩, rfl, trivial⟩ rfl rfl) rfl) ?_
  obtain ⟨r6, h7, H⟩ := bnd H
  refine seq_run0 (stp_call (k_slices_Compare_L_string_string_ [a1.App, a1.Product] [b2.App, b2.Product] r6 h7) ⟨.inl rfl, .inl rfl, trivial⟩) ?_
  refine qe rfl ?_
  refine awp_ret ?_
  cases H
  exact ⟨trivial, .inl rfl, trivial⟩
theorem ks_slices_CompactFunc_L_api_Event_api_Event_ (v1 : (List S_api_Event)) (p1 : S_api_Event → S_api_Event → Option (Bool)) (fv1 : Nat) (us1 : List V) (hp1 : ∀ a0 a1 r, p1 a0 a1 = some r → Fn Tryz.prog fv1 ([vagg (C_api_Event a0), vagg (C_api_Event a1)] ++ us1) (resOf [vbool r])) (r : ((List S_api_Event))) (H : m_slices_CompactFunc_L_api_Event_api_Event_ v1 p1 = some r) : FnG Tryz.prog 33 [.row 0 v1.length, .dat (vfn fv1 us1)] [(0, .row 40 5 (List.map C_api_Event v1))] (.row 900 r.length) [(900, .row 40 5 (List.map C_api_Event r))] := by
 refine fnG_of (by kernel_rfl) Tryz.func33 rfl rfl rfl rfl fun X A hN => ?_
 unfold m_slices_CompactFunc_L_api_Event_api_Event_ at H
 refine awp_seq ?_
 refine awp_plain hN rfl ?_
 refine qe rfl ?_
 refine awp_seq ?_
 refine awp_seq ?_
 refine awp_plain hN rfl ?_
 refine seq_run0 (stp_move (.row _ _) rfl) ?_
 refine seq_run1 (t_lenR tyU31 rfl rfl) rfl ?_
 refine seq_run0 (stp_lss rfl rfl) ?_
 refine awp_cond _ rfl (fun h2 => ?_) (fun h2 => ?_)
 ·replace H := ift h2 H
  refine awp_seq ?_
  refine awp_plain hN rfl ?_
  refine seq_run0 (stp_move (.row _ _) rfl) ?_
  refine seq_run0 (stp_assign (.row _ _) rfl) ?_
  refine awp_ren 4 0 900 rfl rfl (by rw [List.length_map]) rfl ?_
  refine awp_ret ?_
  cases H
  exact ⟨trivial, [(4, .row 900 _)], ⟨rfl, trivial⟩, ⟨rfl, trivial⟩, rfl, .inr (.inl ⟨4, rfl, rfl⟩)⟩
 ·replace H := iff_ h2 H
  refine awp_skip ?_
  refine awp_joinE (ι := Unit) (fun i => [(0, .row 0 v1.length)]) (fun i => [(0, .row 40 5 (List.map C_api_Event v1))]) (fun i => slices_CompactFunc_L_api_Event_api_Event__J1 v1 = some r) (fun i => rfl) ?_ ?_
  ·skip
   refine awp_seq ?_
   refine awp_plain hN rfl ?_
   refine qe rfl ?_
   refine awp_block ?_
   refine awp_iter (fun (s : Int) => [(0, .row 0 v1.length), (1, .dat (vfn fv1 us1)), (5, .dat (vint s))]) (fun (s : Int) => [(0, .row 40 5 (List.map C_api_Event v1))]) 1 H ⟨rfl, rfl, rfl, trivial⟩ ⟨rfl, trivial⟩ (fun _ => rfl) ?_
   rintro v3 q4 H hq4
   replace H : slices_CompactFunc_L_api_Event_api_Event__L2 v1 p1 v3 = some q4 := H
   unfold slices_CompactFunc_L_api_Event_api_Event__L2 at H
   refine awp_seq ?_
   refine awp_seq ?_
   refine awp_plain hN rfl ?_
   refine qd rfl ?_
   refine seq_run0 (stp_move (.row _ _) rfl) ?_
   refine seq_run1 (t_lenR tyU31 rfl rfl) rfl ?_
   refine seq_run0 (stp_lss rfl rfl) ?_
   refine awp_cond _ rfl (fun h5 => ?_) (fun h5 => ?_)
   ·replace H := ift h5 H
    refine awp_skip ?_
    refine awp_seq ?_
    refine awp_block ?_
    refine awp_seq ?_
    refine awp_draw mixed hN rfl rfl ?_
    refine qd rfl ?_
    refine seq_run0 (stp_move (.row _ _) rfl) ?_
    refine qd rfl ?_
    obtain ⟨x6, h7, H⟩ := bnd H
    refine seq_run1 (t_idxRI tyE31 rfl rfl rfl h7) rfl ?_
    refine seq_run1 (t_loadRA tyS40 rfl rfl (at_some h7).2 rfl) rfl ?_
    refine seq_run0 (stp_move (.row _ _) rfl) ?_
    refine qd rfl ?_
    refine seq_run0 (stp_wrap _ rfl rfl (.inr (.inl ⟨rfl, rfl⟩))) ?_
    obtain ⟨x8, h9, H⟩ := bnd H
    refine seq_run1 (t_idxRI tyE31 rfl rfl rfl h9) rfl ?_
    refine seq_run1 (t_loadRA tyS40 rfl rfl (at_some h9).2 rfl) rfl ?_
    obtain ⟨r10, h11, H⟩ := bnd H
    refine seq_run0 (stp_callv (hp1 x6 x8 r10 h11) rfl ⟨.inl rfl, .inl rfl, trivial⟩) ?_
    refine ⟨rfl, ?_⟩
    refine awp_cond _ rfl (fun h12 => ?_) (fun h12 => ?_)
    ·replace H := ift h12 H
     refine awp_seq ?_
     refine awp_plain hN rfl ?_
     refine seq_run0 (stp_move (.row _ _) rfl) ?_
     refine qd rfl ?_
     obtain ⟨h13, H⟩ := gif H
     refine seq_run1 (t_rsub (C := C_api_Event) tyE31 rfl rfl rfl h13) rfl ?_
     refine seq_run0 (stp_assign (.rsub _ _ _ _) rfl) ?_
     refine awp_joinE (ι := Int × (List S_api_Event)) (fun i => [(0, .row 0 i.2.length), (5, .dat (vint i.1))]) (fun i => [(0, .row 40 5 (List.map C_api_Event i.2))]) (fun i => slices_CompactFunc_L_api_Event_api_Event__J3 i.1 i.2 = some q4) (fun i => rfl) ?_ ?_
     ·skip
      refine awp_seq ?_
      refine awp_plain hN rfl ?_
      refine qe rfl ?_
      refine awp_block ?_
      refine awp_iter (fun (s : Int × Int × (List S_api_Event)) => [(0, .row 0 s.2.2.length), (1, .dat (vfn fv1 us1)), (5, .dat (vint s.1)), (6, .rsub 0 s.2.2.length 5 v3.toNat), (7, .dat (vint s.2.1))]) (fun (s : Int × Int × (List S_api_Event)) => [(0, .row 40 5 (List.map C_api_Event s.2.2))]) (v3, 1, v1) H ⟨rfl, rfl, rfl, rfl, rfl, trivial⟩ ⟨rfl, trivial⟩ (fun _ => rfl) ?_
      rintro ⟨v14, v15, l16⟩ q17 H hq17
      replace H : slices_CompactFunc_L_api_Event_api_Event__L4 p1 v3 v14 v15 l16 = some q17 := H
      unfold slices_CompactFunc_L_api_Event_api_Event__L4 at H
      refine awp_seq ?_
      refine awp_seq ?_
      refine awp_plain hN rfl ?_
      refine qd rfl ?_
      refine seq_run0 (stp_move (.rsub _ _ _ _) rfl) ?_
      refine seq_run1 (t_lenRS tyU31 rfl rfl) rfl ?_
      refine seq_run0 (stp_lss rfl rfl) ?_
      refine awp_cond _ rfl (fun h18 => ?_) (fun h18 => ?_)
      ·replace H := ift h18 H
       refine awp_skip ?_
       refine awp_joinE (ι := Int × (List S_api_Event)) (fun i => [(0, .row 0 i.2.length), (1, .dat (vfn fv1 us1)), (5, .dat (vint i.1)), (6, .rsub 0 i.2.length 5 v3.toNat), (7, .dat (vint v15))]) (fun i => [(0, .row 40 5 (List.map C_api_Event i.2))]) (fun i => slices_CompactFunc_L_api_Event_api_Event__J5 v15 i.1 i.2 = some q17) (fun i => rfl) ?_ ?_
       ·skip
        refine awp_block ?_
        refine awp_seq ?_
        refine awp_draw mixed hN rfl rfl ?_
        refine qd rfl ?_
        refine seq_run0 (stp_move (.rsub _ _ _ _) rfl) ?_
        refine qd rfl ?_
        obtain ⟨x19, h20, H⟩ := bnd H
        refine seq_run1 (t_idxRSI tyE31 rfl rfl rfl h20) rfl ?_
        refine seq_run1 (t_loadRA tyS40 rfl rfl (drp_at (at_some h20).2) rfl) rfl ?_
        refine seq_run0 (stp_move (.rsub _ _ _ _) rfl) ?_
        refine qd rfl ?_
        refine seq_run0 (stp_wrap _ rfl rfl (.inr (.inl ⟨rfl, rfl⟩))) ?_
        obtain ⟨x21, h22, H⟩ := bnd H
        refine seq_run1 (t_idxRSI tyE31 rfl rfl rfl h22) rfl ?_
        refine seq_run1 (t_loadRA tyS40 rfl rfl (drp_at (at_some h22).2) rfl) rfl ?_
        obtain ⟨r23, h24, H⟩ := bnd H
        refine seq_run0 (stp_callv (hp1 x19 x21 r23 h24) rfl ⟨.inl rfl, .inl rfl, trivial⟩) ?_
        refine seq_run0 (stp_not rfl) ?_
        refine ⟨rfl, ?_⟩
        refine awp_cond _ rfl (fun h25 => ?_) (fun h25 => ?_)
        ·replace H := ift h25 H
         refine awp_seq ?_
         refine awp_plain hN rfl ?_
         refine seq_run0 (stp_move (.row _ _) rfl) ?_
         refine qd rfl ?_
         refine seq_run0 (stp_move (.rsub _ _ _ _) rfl) ?_
         refine qd rfl ?_
         refine seq_run1 (t_idxRSI tyE31 rfl rfl rfl h20) rfl ?_
         refine seq_run1 (t_loadRA tyS40 rfl rfl (drp_at (at_some h20).2) rfl) rfl ?_
         obtain ⟨x26, h27, H⟩ := bnd H
         refine seq_run1 (t_idxRI tyE31 rfl rfl rfl h27) rfl ?_
         refine seq_run2 (t_storeRA (C := C_api_Event) tyS40 rfl rfl rfl (at_lt (at_some h27).2) rfl rfl) rfl ?_
         refine awp_plain hN rfl ?_
         refine qd rfl ?_
         refine seq_run0 (stp_wrap _ rfl rfl (.inl ⟨rfl, rfl⟩)) ?_
         refine qe rfl ?_
         exact ⟨(wr (v14 + 1), (l16.set v14.toNat x19)), H, ⟨congrArg (Slot.row 0) (by simp), rfl, rfl, congrArg (fun n => Slot.rsub 0 n 5 v3.toNat) (by simp), rfl, trivial⟩, ⟨rfl, trivial⟩⟩
        ·replace H := iff_ h25 H
         refine awp_skip ?_
         exact ⟨(v14, l16), H, ⟨rfl, rfl, rfl, rfl, rfl, trivial⟩, ⟨rfl, trivial⟩⟩
       ·rintro ⟨v28, v29⟩ H
        replace H : slices_CompactFunc_L_api_Event_api_Event__J5 v15 v28 v29 = some q17 := H
        unfold slices_CompactFunc_L_api_Event_api_Event__J5 at H
        refine awp_plain hN rfl ?_
        refine qd rfl ?_
        refine seq_run0 (stp_wrap _ rfl rfl (.inl ⟨rfl, rfl⟩)) ?_
        refine qe rfl ?_
        exact ⟨_, backl H, ⟨rfl, rfl, rfl, rfl, rfl, trivial⟩, ⟨rfl, trivial⟩⟩
      ·replace H := iff_ h18 H
       refine awp_exit ?_
       replace H := outl H hq17
       exact ⟨(v14, l16), H, ⟨rfl, rfl, trivial⟩, ⟨rfl, trivial⟩⟩
     ·rintro ⟨v30, v31⟩ H
      replace H : slices_CompactFunc_L_api_Event_api_Event__J3 v30 v31 = some q4 := H
      unfold slices_CompactFunc_L_api_Event_api_Event__J3 at H
      refine awp_seq ?_
      refine awp_plain hN rfl ?_
      refine seq_run0 (stp_move (.row _ _) rfl) ?_
      refine qd rfl ?_
      obtain ⟨h32, H⟩ := gif H
      refine seq_run1 (t_rsub (C := C_api_Event) tyE31 rfl rfl rfl h32) rfl ?_
      refine seq_run2 (t_clear (C := C_api_Event) (S_api_Event.mk 0 [] [] 0 []) tyU31 tyZ40 rfl rfl rfl rfl rfl h32) rfl ?_
      refine awp_seq ?_
      refine awp_plain hN rfl ?_
      refine seq_run0 (stp_move (.row _ _) rfl) ?_
      refine qd rfl ?_
      obtain ⟨h33, H⟩ := gif H
      refine seq_run3 (t_cut (C := C_api_Event) 1 tyE31 rfl (clr_len (S_api_Event.mk 0 [] [] 0 []) h32) rfl h33) rfl rfl ?_
      refine seq_run0 (stp_assign (.row _ _) rfl) ?_
      refine awp_ren 4 1 900 rfl rfl (by rw [List.length_map]; exact (cut_len h33)) rfl ?_
      refine awp_ret ?_
      replace H := retl H hq4
      cases H
      exact ⟨trivial, [(4, .row 900 _)], ⟨rfl, trivial⟩, ⟨rfl, trivial⟩, rfl, .inr (.inl ⟨4, rfl, congrArg (Slot.row 900) (by first | exact cut_len (by assumption) | (simp <;> omega))⟩)⟩
    ·replace H := iff_ h12 H
     refine awp_skip ?_
     refine awp_plain hN rfl ?_
     refine qd rfl ?_
     refine seq_run0 (stp_wrap _ rfl rfl (.inl ⟨rfl, rfl⟩)) ?_
     refine qe rfl ?_
     exact ⟨_, backl H, ⟨rfl, rfl, rfl, trivial⟩, ⟨rfl, trivial⟩⟩
   ·replace H := iff_ h5 H
    refine awp_exit ?_
    replace H := outl H hq4
    exact ⟨(), H, ⟨rfl, trivial⟩, ⟨rfl, trivial⟩⟩
  ·rintro ⟨⟩ H
   replace H : slices_CompactFunc_L_api_Event_api_Event__J1 v1 = some r := H
   unfold slices_CompactFunc_L_api_Event_api_Event__J1 at H
   refine awp_seq ?_
   refine awp_plain hN rfl ?_
   refine seq_run0 (stp_move (.row _ _) rfl) ?_
   refine seq_run0 (stp_assign (.row _ _) rfl) ?_
   refine awp_ren 4 0 900 rfl rfl (by rw [List.length_map]) rfl ?_
   refine awp_ret ?_
   cases H
   exact ⟨trivial, [(4, .row 900 _)], ⟨rfl, trivial⟩, ⟨rfl, trivial⟩, rfl, .inr (.inl ⟨4, rfl, rfl⟩)⟩
theorem k_gatemake_Stream_Events_1 (a1 : S_api_Event) (b2 : S_api_Event) (r : (Bool)) (H : m_gatemake_Stream_Events_1 a1 b2 = some r) : Fn Tryz.prog 34 [vagg (C_api_Event a1), vagg (C_api_Event b2)] (resOf [vbool r]) := by
 refine ⟨by kernel_rfl, pure_of (us := [vbool r]) Tryz.func34 rfl rfl rfl rfl fun X hN => ?_⟩
 unfold m_gatemake_Stream_Events_1 at H
 refine awp_seq ?_
 refine awp_plain hN rfl ?_
 refine seq_run2 (stp_boxA 1 rfl) rfl ?_
 refine seq_run2 (stp_boxA 2 rfl) rfl ?_
 refine qe rfl ?_
 refine awp_seq ?_
 refine awp_plain hN rfl ?_
 refine seq_run1 (stp_loadA tyS40 rfl rfl rfl) rfl ?_
 refine seq_run1 (stp_loadA tyS40 rfl rfl rfl) rfl ?_
 obtain ⟨r3, h4, H⟩ := bnd H
 refine seq_run0 (stp_call (k_gateref2_EventOrder a1 b2 r3 h4) ⟨.inl rfl, .inl rfl, trivial⟩) ?_
 refine seq_run0 (stp_eql rfl rfl) ?_
 refine qe rfl ?_
 refine awp_ret ?_
 cases H
 exact ⟨trivial, .inl rfl, trivial⟩
theorem k_gateref2_in (n1 : Int) (low2 : Int) (high3 : Int) (r : (Bool)) (H : m_gateref2_in n1 low2 high3 = some r) : Fn Tryz.prog 49 [vint n1, vint low2, vint high3] (resOf [vbool r]) := by
 refine ⟨by kernel_rfl, pure_of (us := [vbool r]) Tryz.func49 rfl rfl rfl rfl fun X hN => ?_⟩
 unfold m_gateref2_in at H
 refine awp_seq ?_
 refine awp_plain hN rfl ?_
 refine qe rfl ?_
 refine awp_seq ?_
 refine awp_plain hN rfl ?_
 refine qd rfl ?_
 refine qd rfl ?_
 refine seq_run0 (stp_leq rfl rfl) ?_
 refine qd rfl ?_
 refine seq_aT rfl rfl (fun hc => stp_move (.dat _) rfl) ?_
 refine seq_aT rfl rfl (fun hc => stp_move (.dat _) rfl) ?_
 refine seq_aT rfl rfl (fun hc => stp_leq (cnd (c := (decide (low2 ≤ n1))) hc) (cnd (c := (decide (low2 ≤ n1))) hc)) ?_
 refine seq_run0 (stp_pick_and rfl (fun hb => (cnd (c := (decide (low2 ≤ n1))) hb)) rfl) ?_
 refine qe rfl ?_
 refine awp_ret ?_
 cases H
 exact ⟨trivial, .inl rfl, trivial⟩
theorem k_strings_IndexByte (l : Bs) (c r : Int) (H : m_strings_IndexByte l c = some r) : Fn Tryz.prog 96 [vstr l, vval (.int .u8 c)] (resOf [vint r]) := by
 cases H
 refine fn_of_calls (by kernel_rfl) fun M w vs h => ?_
 have h1 := Ts_vals (us := [.string ⟨l.toArray⟩, .int .u8 c]) h
 subst h1
 refine (Tryz.strings_IndexByte ⟨l.toArray⟩ c w).mono ?_
 rintro e w' ⟨rfl, rfl⟩
 exact ⟨_, rfl, rfl, Kp.refl _ _⟩
theorem k_gateref2_only (s1 : Bs) (some2 : Bs) (r : (Bool)) (H : m_gateref2_only s1 some2 = some r) : Fn Tryz.prog 68 [vstr s1, vstr some2] (resOf [vbool r]) := by
 refine ⟨by kernel_rfl, pure_of (us := [vbool r]) Tryz.func68 rfl rfl rfl rfl fun X hN => ?_⟩
 unfold m_gateref2_only at H
 refine awp_seq ?_
 refine awp_plain hN rfl ?_
 refine qe rfl ?_
 refine awp_seq ?_
 refine awp_seq ?_
 refine awp_plain hN rfl ?_
 refine qd rfl ?_
 refine seq_run0 (stp_len_str tyU9 rfl) ?_
 refine qd rfl ?_
 refine awp_block ?_
 obtain ⟨h5, H⟩ := gif H
 refine awp_forL (fun (k3 : Nat) (s : Unit) => [(0, .dat (vstr s1)), (1, .dat (vstr some2)), (7, .dat (vint (s1.length : Int))), (8, .dat (vint (k3 : Int)))]) (fun (k3 : Nat) (s : Unit) => []) () H ⟨rfl, rfl, rfl, rfl, trivial⟩ trivial (fun _ _ => rfl) ?_ ?_
 ·rintro ⟨⟩ H
  replace H : gateref2_only_E1 = some r := H
  unfold gateref2_only_E1 at H
  refine awp_seq ?_
  refine awp_plain hN rfl ?_
  refine seq_run0 (stp_lss rfl rfl) ?_
  refine awp_seq ?_
  refine awp_cond _ rfl (fun h => (lt_t h).elim) (fun h => ?_)
  refine awp_exit ?_
  refine awp_seq ?_
  refine awp_plain hN rfl ?_
  refine qe rfl ?_
  refine awp_ret ?_
  cases H
  exact ⟨trivial, .inl rfl, trivial⟩
 ·rintro k3 x6 ⟨⟩ q4 h7 h8 H hq4
  replace H : gateref2_only_L1 some2 k3 x6 = some q4 := H
  unfold gateref2_only_L1 at H
  refine awp_seq ?_
  refine awp_plain hN rfl ?_
  refine seq_run0 (stp_lss rfl rfl) ?_
  refine awp_seq ?_
  refine awp_cond _ rfl (fun h => ?_) (fun h => (lt_f h7 h).elim)
  refine awp_skip ?_
  refine awp_seq ?_
  refine awp_block ?_
  refine awp_seq ?_
  refine awp_plain hN rfl ?_
  refine qd rfl ?_
  refine qe rfl ?_
  refine awp_seq ?_
  refine awp_plain hN rfl ?_
  refine qd rfl ?_
  refine qd rfl ?_
  refine qd rfl ?_
  refine seq_run0 (t_byte tyU9 rfl rfl h8) ?_
  obtain ⟨r9, h10, H⟩ := bnd H
  refine seq_run0 (stp_call (k_strings_IndexByte some2 (x6.toNat : Int) r9 h10) ⟨.inl rfl, .inl rfl, trivial⟩) ?_
  refine seq_run0 (stp_lss rfl rfl) ?_
  refine awp_cond _ rfl (fun h11 => ?_) (fun h11 => ?_)
  ·replace H := ift h11 H
   refine awp_seq ?_
   refine awp_plain hN rfl ?_
   refine qe rfl ?_
   refine awp_ret ?_
   replace H := retl H hq4
   cases H
   exact ⟨trivial, .inl rfl, trivial⟩
  ·replace H := iff_ h11 H
   refine awp_skip ?_
   refine awp_plain hN rfl ?_
   refine seq_run0 (stp_add rfl rfl (by omega)) ?_
   refine qd rfl ?_
   exact ⟨_, backl H, ⟨rfl, rfl, rfl, rfl, trivial⟩, trivial⟩
theorem k_gateref2_Key (s1 : Bs) (r : (Bool)) (H : m_gateref2_Key s1 = some r) : Fn Tryz.prog 41 [vstr s1] (resOf [vbool r]) := by
 refine ⟨by kernel_rfl, pure_of (us := [vbool r]) Tryz.func41 rfl rfl rfl rfl fun X hN => ?_⟩
 unfold m_gateref2_Key at H
 refine awp_seq ?_
 refine awp_plain hN rfl ?_
 refine qe rfl ?_
 refine awp_joinE (ι := Bool) (fun i => [(2, .dat (vbool i))]) (fun i => []) (fun i => gateref2_Key_J1 i = some r) (fun i => rfl) ?_ ?_
 ·skip
  refine awp_plain hN rfl ?_
  refine qd rfl ?_
  refine seq_run0 (stp_len_str tyU9 rfl) ?_
  obtain ⟨r2, h3, H⟩ := bnd H
  refine seq_run0 (stp_call (k_gateref2_in (s1.length : Int) 1 40 r2 h3) ⟨.inl rfl, .inl rfl, .inl rfl, trivial⟩) ?_
  refine qd rfl ?_
  refine seq_split (j := 3) rfl rfl (fun h4 => ?_) (fun h4 => ?_) rfl
  ·have h5 := un1 h4
   replace H := ift h5 H
   refine seq_g0 rfl rfl h4 (stp_move (.dat _) rfl) ?_
   obtain ⟨l6, h7, H⟩ := bnd H
   refine seq_g0 rfl rfl h4 (t_subS tyU9 rfl rfl rfl h7) ?_
   obtain ⟨r8, h9, H⟩ := bnd H
   refine seq_g0 rfl rfl h4 (stp_call (k_gateref2_only l6 [97, 98, 99, 100, 101, 102, 103, 104, 105, 106, 107, 108, 109, 110, 111, 112, 113, 114, 115, 116, 117, 118, 119, 120, 121, 122] r8 h9) ⟨.inl rfl, .inl rfl, trivial⟩) ?_
   refine seq_run0 (stp_pick_t rfl (bTT h5) rfl) ?_
   refine qd rfl ?_
   refine seq_split (j := 8) rfl rfl (fun h10 => ?_) (fun h10 => ?_) rfl
   ·have h11 := un1 h10
    replace H := ift h11 H
    refine seq_g0 rfl rfl h10 (stp_move (.dat _) rfl) ?_
    obtain ⟨r12, h13, H⟩ := bnd H
    refine seq_g0 rfl rfl h10 (stp_call (k_gateref2_only s1 [97, 98, 99, 100, 101, 102, 103, 104, 105, 106, 107, 108, 109, 110, 111, 112, 113, 114, 115, 116, 117, 118, 119, 120, 121, 122, 48, 49, 50, 51, 52, 53, 54, 55, 56, 57, 45, 95] r12 h13) ⟨.inl rfl, .inl rfl, trivial⟩) ?_
    refine seq_run0 (stp_pick_t rfl (bTT h11) rfl) ?_
    refine qe rfl ?_
    exact ⟨r12, H, ⟨rfl, trivial⟩, trivial⟩
   ·have h14 := un2 h10
    replace H := iff_ h14 H
    refine seq_skip rfl rfl h10 ?_
    refine seq_skip rfl rfl h10 ?_
    refine seq_run0 (stp_pick_f rfl (bFF h14) rfl) ?_
    refine qe rfl ?_
    exact ⟨false, H, ⟨rfl, trivial⟩, trivial⟩
  ·have h15 := un2 h4
   replace H := iff_ h15 H
   refine seq_skip rfl rfl h4 ?_
   refine seq_skip rfl rfl h4 ?_
   refine seq_skip rfl rfl h4 ?_
   refine seq_run0 (stp_pick_f rfl (bFF h15) rfl) ?_
   refine qd rfl ?_
   refine seq_skip rfl rfl rfl ?_
   refine seq_skip rfl rfl rfl ?_
   refine seq_run0 (stp_pick_f rfl rfl rfl) ?_
   refine qe rfl ?_
   exact ⟨false, H, ⟨rfl, trivial⟩, trivial⟩
 ·rintro v16 H
  replace H : gateref2_Key_J1 v16 = some r := H
  unfold gateref2_Key_J1 at H
  refine awp_ret ?_
  cases H
  exact ⟨trivial, .inl rfl, trivial⟩
theorem k_slices_IndexFunc_L_api_Product_api_Product_ (s1 : (List S_api_Product)) (p1 : S_api_Product → Option (Bool)) (fv1 : Nat) (us1 : List V) (hp1 : ∀ a0 r, p1 a0 = some r → Fn Tryz.prog fv1 ([vagg (C_api_Product a0)] ++ us1) (resOf [vbool r])) (r : (Int)) (H : m_slices_IndexFunc_L_api_Product_api_Product_ s1 p1 = some r) : Fn Tryz.prog 80 [vlst (List.map C_api_Product s1), vfn fv1 us1] (resOf [vint r]) := by
 refine ⟨by kernel_rfl, pure_of (us := [vint r]) Tryz.func80 rfl rfl rfl rfl fun X hN => ?_⟩
 unfold m_slices_IndexFunc_L_api_Product_api_Product_ at H
 refine awp_seq ?_
 refine awp_plain hN rfl ?_
 refine qe rfl ?_
 refine awp_seq ?_
 refine awp_seq ?_
 refine awp_plain hN rfl ?_
 refine qd rfl ?_
 refine seq_run0 (t_len tyU26 rfl) ?_
 refine qd rfl ?_
 refine awp_block ?_
 obtain ⟨h4, H⟩ := gif H
 refine awp_forL (fun (k2 : Nat) (s : Unit) => [(0, .dat (vlst (List.map C_api_Product s1))), (1, .dat (vfn fv1 us1)), (7, .dat (vint (s1.length : Int))), (8, .dat (vint (k2 : Int)))]) (fun (k2 : Nat) (s : Unit) => []) () H ⟨rfl, rfl, rfl, rfl, trivial⟩ trivial (fun _ _ => rfl) ?_ ?_
 ·rintro ⟨⟩ H
  replace H : slices_IndexFunc_L_api_Product_api_Product__E1 = some r := H
  unfold slices_IndexFunc_L_api_Product_api_Product__E1 at H
  refine awp_seq ?_
  refine awp_plain hN rfl ?_
  refine seq_run0 (stp_lss rfl rfl) ?_
  refine awp_seq ?_
  refine awp_cond _ rfl (fun h => (lt_t h).elim) (fun h => ?_)
  refine awp_exit ?_
  refine awp_seq ?_
  refine awp_plain hN rfl ?_
  refine qe rfl ?_
  refine awp_ret ?_
  cases H
  exact ⟨trivial, .inl rfl, trivial⟩
 ·rintro k2 x5 ⟨⟩ q3 h6 h7 H hq3
  replace H : slices_IndexFunc_L_api_Product_api_Product__L1 p1 k2 x5 = some q3 := H
  unfold slices_IndexFunc_L_api_Product_api_Product__L1 at H
  refine awp_seq ?_
  refine awp_plain hN rfl ?_
  refine seq_run0 (stp_lss rfl rfl) ?_
  refine awp_seq ?_
  refine awp_cond _ rfl (fun h => ?_) (fun h => (lt_f h6 h).elim)
  refine awp_skip ?_
  refine awp_seq ?_
  refine awp_block ?_
  refine awp_seq ?_
  refine awp_plain hN rfl ?_
  refine qd rfl ?_
  refine qe rfl ?_
  refine awp_seq ?_
  refine awp_plain hN rfl ?_
  refine qd rfl ?_
  refine qd rfl ?_
  refine qd rfl ?_
  refine seq_run0 (t_idx tyE26 (fun _ => rfl) rfl rfl h7) ?_
  refine seq_run0 (stp_loadEA tyS89 rfl (map_at h7) rfl) ?_
  obtain ⟨r8, h9, H⟩ := bnd H
  refine seq_run0 (stp_callv (hp1 x5 r8 h9) rfl ⟨.inl rfl, trivial⟩) ?_
  refine awp_cond _ rfl (fun h10 => ?_) (fun h10 => ?_)
  ·replace H := ift h10 H
   refine awp_seq ?_
   refine awp_plain hN rfl ?_
   refine qd rfl ?_
   refine qe rfl ?_
   refine awp_ret ?_
   replace H := retl H hq3
   cases H
   exact ⟨trivial, .inl rfl, trivial⟩
  ·replace H := iff_ h10 H
   refine awp_skip ?_
   refine awp_plain hN rfl ?_
   refine seq_run0 (stp_add rfl rfl (by omega)) ?_
   refine qd rfl ?_
   exact ⟨_, backl H, ⟨rfl, rfl, rfl, rfl, trivial⟩, trivial⟩
theorem k_gateref2_ProductAt_1 (p1 : S_api_Product) (c2 : Bs) (r : (Bool)) (H : m_gateref2_ProductAt_1 p1 c2 = some r) : Fn Tryz.prog 81 [vagg (C_api_Product p1), vcell [[vstr c2]] 0 0] (resOf [vbool r]) := by
 refine ⟨by kernel_rfl, pure_of (us := [vbool r]) Tryz.func81 rfl rfl rfl rfl fun X hN => ?_⟩
 unfold m_gateref2_ProductAt_1 at H
 refine awp_seq ?_
 refine awp_plain hN rfl ?_
 refine seq_run2 (stp_boxA 1 rfl) rfl ?_
 refine qe rfl ?_
 refine awp_seq ?_
 refine awp_plain hN rfl ?_
 refine seq_run0 (stp_fldP tyF89_0 rfl) ?_
 refine seq_run1 (stp_load1 tyS9 rfl rfl) rfl ?_
 refine seq_run0 (stp_loadE1 tyS9 rfl rfl rfl) ?_
 refine seq_run0 (stp_seql rfl rfl) ?_
 refine qe rfl ?_
 refine awp_ret ?_
 cases H
 exact ⟨trivial, .inl rfl, trivial⟩
theorem k_gateref2_ProductAt (c1 : S_api_Catalog) (key2 : Bs) (r : (Int)) (H : m_gateref2_ProductAt c1 key2 = some r) : Fn Tryz.prog 48 [vagg (C_api_Catalog c1), vstr key2] (resOf [vint r]) := by
 refine ⟨by kernel_rfl, pure_of (us := [vint r]) Tryz.func48 rfl rfl rfl rfl fun X hN => ?_⟩
 unfold m_gateref2_ProductAt at H
 refine awp_seq ?_
 refine awp_plain hN rfl ?_
 refine seq_run2 (stp_boxA 1 rfl) rfl ?_
 refine seq_run2 (stp_box1 2 rfl rfl) rfl ?_
 refine qe rfl ?_
 refine awp_seq ?_
 refine awp_frzB 2 [vstr key2] rfl rfl ?_
 refine awp_plain hN rfl ?_
 refine seq_run0 (stp_fldP tyF29_0 rfl) ?_
 refine seq_run1 (stp_load1 tyS26 rfl rfl) rfl ?_
 refine seq_run0 (stp_mkfn (us := [_]) ⟨rfl, trivial⟩) ?_
 obtain ⟨r3, h4, H⟩ := bnd H
 refine seq_run0 (stp_call (k_slices_IndexFunc_L_api_Product_api_Product_ c1.Products (fun (a0 : S_api_Product) => m_gateref2_ProductAt_1 a0 key2) 81 [vcell [[vstr key2]] 0 0] (fun a0 r h => k_gateref2_ProductAt_1 a0 key2 r h) r3 h4) ⟨.inl rfl, .inl rfl, trivial⟩) ?_
 refine qe rfl ?_
 refine awp_ret ?_
 cases H
 exact ⟨trivial, .inl rfl, trivial⟩
theorem k_gateref2_planFault (v1 : S_api_Catalog) (v2 : S_api_Plan) (r : (Int)) (H : m_gateref2_planFault v1 v2 = some r) : Fn Tryz.prog 56 [vagg (C_api_Catalog v1), vagg (C_api_Plan v2)] (resOf [vint r]) := by
 refine ⟨by kernel_rfl, pure_of (us := [vint r]) Tryz.func56 rfl rfl rfl rfl fun X hN => ?_⟩
 unfold m_gateref2_planFault at H
 refine awp_seq ?_
 refine awp_plain hN rfl ?_
 refine seq_run2 (stp_boxA 1 rfl) rfl ?_
 refine seq_run2 (stp_boxA 2 rfl) rfl ?_
 refine qe rfl ?_
 refine awp_seq ?_
 refine awp_block ?_
 refine awp_seq ?_
 refine awp_plain hN rfl ?_
 refine seq_run1 (stp_loadA tyS29 rfl rfl rfl) rfl ?_
 refine seq_run0 (stp_fldP tyF64_1 rfl) ?_
 refine seq_run1 (stp_load1 tyS9 rfl rfl) rfl ?_
 obtain ⟨r3, h4, H⟩ := bnd H
 refine seq_run0 (stp_call (k_gateref2_ProductAt v1 v2.Product r3 h4) ⟨.inl rfl, .inl rfl, trivial⟩) ?_
 refine seq_run0 (stp_lss rfl rfl) ?_
 refine qe rfl ?_
 refine awp_cond _ rfl (fun h5 => ?_) (fun h5 => ?_)
 ·replace H := ift h5 H
  refine awp_seq ?_
  refine awp_plain hN rfl ?_
  refine qe rfl ?_
  refine awp_ret ?_
  cases H
  exact ⟨trivial, .inl rfl, trivial⟩
 ·replace H := iff_ h5 H
  refine awp_joinE (ι := Bool) (fun i => [(3, .ptr 2 0), (13, .dat (vbool i))]) (fun i => [(2, .box none 64 [.dat (vstr v2.Key), .dat (vstr v2.Product), .dat (vint v2.Base), .dat (vint v2.Free), .dat (vlst (List.map C_api_Tier v2.Tiers)), .dat (vint v2.Limit), .dat (vint v2.Trial), .dat (vbool v2.Asked)])]) (fun i => gateref2_planFault_J1 v2 i = some r) (fun i => rfl) ?_ ?_
  ·skip
   refine awp_plain hN rfl ?_
   refine seq_run0 (stp_fldP tyF64_2 rfl) ?_
   refine seq_run1 (stp_load1 tyS3 rfl rfl) rfl ?_
   obtain ⟨r6, h7, H⟩ := bnd H
   refine seq_run0 (stp_call (k_gateref2_in v2.Base 0 1000000000000 r6 h7) ⟨.inl rfl, .inl rfl, .inl rfl, trivial⟩) ?_
   refine seq_run0 (stp_not rfl) ?_
   refine qd rfl ?_
   refine seq_split (j := 4) rfl rfl (fun h8 => ?_) (fun h8 => ?_) rfl
   ·have h9 := un3 h8
    replace H := iff_ h9 H
    refine seq_g0 rfl rfl h8 (stp_fldP tyF64_3 rfl) ?_
    refine seq_g1 rfl rfl h8 (stp_load1 tyS3 rfl rfl) rfl ?_
    obtain ⟨r10, h11, H⟩ := bnd H
    refine seq_g0 rfl rfl h8 (stp_call (k_gateref2_in v2.Free 0 1000000000000 r10 h11) ⟨.inl rfl, .inl rfl, .inl rfl, trivial⟩) ?_
    refine seq_g0 rfl rfl h8 (stp_not rfl) ?_
    refine seq_run0 (stp_pick_f rfl (bFF h9) rfl) ?_
    refine qe rfl ?_
    exact ⟨!r10, H, ⟨rfl, rfl, trivial⟩, ⟨rfl, trivial⟩⟩
   ·have h12 := un4 h8
    replace H := ift h12 H
    refine seq_skip rfl rfl h8 ?_
    refine seq_skip rfl rfl h8 ?_
    refine seq_skip rfl rfl h8 ?_
    refine seq_skip rfl rfl h8 ?_
    refine seq_run0 (stp_pick_t rfl (bTT h12) rfl) ?_
    refine qe rfl ?_
    exact ⟨true, H, ⟨rfl, rfl, trivial⟩, ⟨rfl, trivial⟩⟩
  ·rintro v13 H
   replace H : gateref2_planFault_J1 v2 v13 = some r := H
   unfold gateref2_planFault_J1 at H
   refine awp_cond _ rfl (fun h14 => ?_) (fun h14 => ?_)
   ·replace H := ift h14 H
    refine awp_seq ?_
    refine awp_plain hN rfl ?_
    refine qe rfl ?_
    refine awp_ret ?_
    cases H
    exact ⟨trivial, .inl rfl, trivial⟩
   ·replace H := iff_ h14 H
    refine awp_seq ?_
    refine awp_plain hN rfl ?_
    refine seq_run0 (stp_fldP tyF64_4 rfl) ?_
    refine seq_run1 (stp_load1 tyS62 rfl rfl) rfl ?_
    refine seq_run0 (t_len tyU62 rfl) ?_
    refine seq_run0 (stp_gtr rfl rfl) ?_
    refine qe rfl ?_
    refine awp_cond _ rfl (fun h15 => ?_) (fun h15 => ?_)
    ·replace H := ift h15 H
     refine awp_seq ?_
     refine awp_plain hN rfl ?_
     refine qe rfl ?_
     refine awp_ret ?_
     cases H
     exact ⟨trivial, .inl rfl, trivial⟩
    ·replace H := iff_ h15 H
     refine awp_skip ?_
     refine awp_seq ?_
     refine awp_seq ?_
     refine awp_plain hN rfl ?_
     refine seq_run0 (stp_fldP tyF64_4 rfl) ?_
     refine seq_run1 (stp_load1 tyS62 rfl rfl) rfl ?_
     refine seq_run0 (t_len tyU62 rfl) ?_
     refine qd rfl ?_
     refine awp_block ?_
     obtain ⟨h18, H⟩ := gif H
     refine awp_forL (fun (k16 : Nat) (s : Unit) => [(3, .ptr 2 0), (30, .dat (vlst (List.map C_api_Tier v2.Tiers))), (31, .dat (vint (v2.Tiers.length : Int))), (32, .dat (vint (k16 : Int)))]) (fun (k16 : Nat) (s : Unit) => [(2, .box none 64 [.dat (vstr v2.Key), .dat (vstr v2.Product), .dat (vint v2.Base), .dat (vint v2.Free), .dat (vlst (List.map C_api_Tier v2.Tiers)), .dat (vint v2.Limit), .dat (vint v2.Trial), .dat (vbool v2.Asked)])]) () H ⟨rfl, rfl, rfl, rfl, trivial⟩ ⟨rfl, trivial⟩ (fun _ _ => rfl) ?_ ?_
     ·rintro ⟨⟩ H
      replace H : gateref2_planFault_E2 v2 = some r := H
      unfold gateref2_planFault_E2 at H
      refine awp_seq ?_
      refine awp_plain hN rfl ?_
      refine seq_run0 (stp_lss rfl rfl) ?_
      refine awp_seq ?_
      refine awp_cond _ rfl (fun h => (lt_t h).elim) (fun h => ?_)
      refine awp_exit ?_
      refine awp_seq ?_
      refine awp_block ?_
      refine awp_joinE (ι := Bool) (fun i => [(3, .ptr 2 0), (64, .dat (vbool i))]) (fun i => [(2, .box none 64 [.dat (vstr v2.Key), .dat (vstr v2.Product), .dat (vint v2.Base), .dat (vint v2.Free), .dat (vlst (List.map C_api_Tier v2.Tiers)), .dat (vint v2.Limit), .dat (vint v2.Trial), .dat (vbool v2.Asked)])]) (fun i => gateref2_planFault_J3 v2 i = some r) (fun i => rfl) ?_ ?_
      ·skip
       refine awp_plain hN rfl ?_
       refine seq_run0 (stp_fldP tyF64_4 rfl) ?_
       refine seq_run1 (stp_load1 tyS62 rfl rfl) rfl ?_
       refine seq_run0 (t_len tyU62 rfl) ?_
       refine seq_run0 (stp_gtr rfl rfl) ?_
       refine qd rfl ?_
       refine seq_split (j := 4) rfl rfl (fun h20 => ?_) (fun h20 => ?_) rfl
       ·have h21 := un1 h20
        replace H := ift h21 H
        refine seq_g0 rfl rfl h20 (stp_fldP tyF64_4 rfl) ?_
        refine seq_g1 rfl rfl h20 (stp_load1 tyS62 rfl rfl) rfl ?_
        obtain ⟨x22, h23, H⟩ := bnd H
        refine seq_g0 rfl rfl h20 (t_idx tyE62 (fun _ => rfl) rfl rfl h23) ?_
        refine seq_g0 rfl rfl h20 (stp_fldE tyF92_0 rfl) ?_
        refine seq_g0 rfl rfl h20 (stp_loadE1 tyS3 rfl (map_at h23) rfl) ?_
        refine seq_g0 rfl rfl h20 (stp_neq rfl rfl) ?_
        refine seq_run0 (stp_pick_t rfl (bTT h21) rfl) ?_
        refine qe rfl ?_
        exact ⟨decide (x22.From ≠ 1), H, ⟨rfl, rfl, trivial⟩, ⟨rfl, trivial⟩⟩
       ·have h24 := un2 h20
        replace H := iff_ h24 H
        refine seq_skip rfl rfl h20 ?_
        refine seq_skip rfl rfl h20 ?_
        refine seq_skip rfl rfl h20 ?_
        refine seq_skip rfl rfl h20 ?_
        refine seq_skip rfl rfl h20 ?_
        refine seq_skip rfl rfl h20 ?_
        refine seq_run0 (stp_pick_f rfl (bFF h24) rfl) ?_
        refine qe rfl ?_
        exact ⟨false, H, ⟨rfl, rfl, trivial⟩, ⟨rfl, trivial⟩⟩
      ·rintro v25 H
       replace H : gateref2_planFault_J3 v2 v25 = some r := H
       unfold gateref2_planFault_J3 at H
       refine awp_cond _ rfl (fun h26 => ?_) (fun h26 => ?_)
       ·replace H := ift h26 H
        refine awp_seq ?_
        refine awp_plain hN rfl ?_
        refine qe rfl ?_
        refine awp_ret ?_
        cases H
        exact ⟨trivial, .inl rfl, trivial⟩
       ·replace H := iff_ h26 H
        refine awp_joinE (ι := Bool) (fun i => [(77, .dat (vbool i))]) (fun i => []) (fun i => gateref2_planFault_J4 i = some r) (fun i => rfl) ?_ ?_
        ·skip
         refine awp_plain hN rfl ?_
         refine seq_run0 (stp_fldP tyF64_5 rfl) ?_
         refine seq_run1 (stp_load1 tyS3 rfl rfl) rfl ?_
         obtain ⟨r27, h28, H⟩ := bnd H
         refine seq_run0 (stp_call (k_gateref2_in v2.Limit (-1) 1000000000000 r27 h28) ⟨.inl rfl, .inl rfl, .inl rfl, trivial⟩) ?_
         refine seq_run0 (stp_not rfl) ?_
         refine qd rfl ?_
         refine seq_split (j := 4) rfl rfl (fun h29 => ?_) (fun h29 => ?_) rfl
         ·have h30 := un3 h29
          replace H := iff_ h30 H
          refine seq_g0 rfl rfl h29 (stp_fldP tyF64_6 rfl) ?_
          refine seq_g1 rfl rfl h29 (stp_load1 tyS3 rfl rfl) rfl ?_
          obtain ⟨r31, h32, H⟩ := bnd H
          refine seq_g0 rfl rfl h29 (stp_call (k_gateref2_in v2.Trial 0 132 r31 h32) ⟨.inl rfl, .inl rfl, .inl rfl, trivial⟩) ?_
          refine seq_g0 rfl rfl h29 (stp_not rfl) ?_
          refine seq_run0 (stp_pick_f rfl (bFF h30) rfl) ?_
          refine qe rfl ?_
          exact ⟨!r31, H, ⟨rfl, trivial⟩, trivial⟩
         ·have h33 := un4 h29
          replace H := ift h33 H
          refine seq_skip rfl rfl h29 ?_
          refine seq_skip rfl rfl h29 ?_
          refine seq_skip rfl rfl h29 ?_
          refine seq_skip rfl rfl h29 ?_
          refine seq_run0 (stp_pick_t rfl (bTT h33) rfl) ?_
          refine qe rfl ?_
          exact ⟨true, H, ⟨rfl, trivial⟩, trivial⟩
        ·rintro v34 H
         replace H : gateref2_planFault_J4 v34 = some r := H
         unfold gateref2_planFault_J4 at H
         refine awp_cond _ rfl (fun h35 => ?_) (fun h35 => ?_)
         ·replace H := ift h35 H
          refine awp_seq ?_
          refine awp_plain hN rfl ?_
          refine qe rfl ?_
          refine awp_ret ?_
          cases H
          exact ⟨trivial, .inl rfl, trivial⟩
         ·replace H := iff_ h35 H
          refine awp_skip ?_
          refine awp_seq ?_
          refine awp_plain hN rfl ?_
          refine qe rfl ?_
          refine awp_ret ?_
          cases H
          exact ⟨trivial, .inl rfl, trivial⟩
     ·rintro k16 x19 ⟨⟩ q17 h36 h37 H hq17
      replace H : gateref2_planFault_L2 v2 k16 x19 = some q17 := H
      unfold gateref2_planFault_L2 at H
      refine awp_seq ?_
      refine awp_plain hN rfl ?_
      refine seq_run0 (stp_lss rfl rfl) ?_
      refine awp_seq ?_
      refine awp_cond _ rfl (fun h => ?_) (fun h => (lt_f h36 h).elim)
      refine awp_skip ?_
      refine awp_seq ?_
      refine awp_block ?_
      refine awp_seq ?_
      refine awp_plain hN rfl ?_
      refine qd rfl ?_
      refine seq_run0 (t_idx tyE62 (fun _ => rfl) rfl rfl h37) ?_
      refine seq_run0 (stp_loadEA tyS92 rfl (map_at h37) rfl) ?_
      refine seq_run2 (stp_alloc 3 tyZ92 rfl) rfl ?_
      refine qe rfl ?_
      refine seq_run2 (stp_storeW tyS92 rfl rfl rfl rfl) rfl ?_
      refine awp_block ?_
      refine awp_joinE (ι := Bool) (fun i => [(3, .ptr 2 0), (5, .dat (vint (k16 : Int))), (6, .ptr 3 0), (30, .dat (vlst (List.map C_api_Tier v2.Tiers))), (31, .dat (vint (v2.Tiers.length : Int))), (32, .dat (vint (k16 : Int))), (37, .dat (vbool i))]) (fun i => [(2, .box none 64 [.dat (vstr v2.Key), .dat (vstr v2.Product), .dat (vint v2.Base), .dat (vint v2.Free), .dat (vlst (List.map C_api_Tier v2.Tiers)), .dat (vint v2.Limit), .dat (vint v2.Trial), .dat (vbool v2.Asked)]), (3, .box none 92 [.dat (vint x19.From), .dat (vint x19.Cents)])]) (fun i => gateref2_planFault_J5 v2 k16 x19 i = some q17) (fun i => rfl) ?_ ?_
      ·skip
       refine awp_plain hN rfl ?_
       refine seq_run0 (stp_fldP tyF92_0 rfl) ?_
       refine seq_run1 (stp_load1 tyS3 rfl rfl) rfl ?_
       obtain ⟨r38, h39, H⟩ := bnd H
       refine seq_run0 (stp_call (k_gateref2_in x19.From 1 1000000000000 r38 h39) ⟨.inl rfl, .inl rfl, .inl rfl, trivial⟩) ?_
       refine seq_run0 (stp_not rfl) ?_
       refine qd rfl ?_
       refine seq_split (j := 4) rfl rfl (fun h40 => ?_) (fun h40 => ?_) rfl
       ·have h41 := un3 h40
        replace H := iff_ h41 H
        refine seq_g0 rfl rfl h40 (stp_fldP tyF92_1 rfl) ?_
        refine seq_g1 rfl rfl h40 (stp_load1 tyS3 rfl rfl) rfl ?_
        obtain ⟨r42, h43, H⟩ := bnd H
        refine seq_g0 rfl rfl h40 (stp_call (k_gateref2_in x19.Cents 0 1000000 r42 h43) ⟨.inl rfl, .inl rfl, .inl rfl, trivial⟩) ?_
        refine seq_g0 rfl rfl h40 (stp_not rfl) ?_
        refine seq_run0 (stp_pick_f rfl (bFF h41) rfl) ?_
        refine qe rfl ?_
        exact ⟨!r42, H, ⟨rfl, rfl, rfl, rfl, rfl, rfl, rfl, trivial⟩, ⟨rfl, rfl, trivial⟩⟩
       ·have h44 := un4 h40
        replace H := ift h44 H
        refine seq_skip rfl rfl h40 ?_
        refine seq_skip rfl rfl h40 ?_
        refine seq_skip rfl rfl h40 ?_
        refine seq_skip rfl rfl h40 ?_
        refine seq_run0 (stp_pick_t rfl (bTT h44) rfl) ?_
        refine qe rfl ?_
        exact ⟨true, H, ⟨rfl, rfl, rfl, rfl, rfl, rfl, rfl, trivial⟩, ⟨rfl, rfl, trivial⟩⟩
      ·rintro v45 H
       replace H : gateref2_planFault_J5 v2 k16 x19 v45 = some q17 := H
       unfold gateref2_planFault_J5 at H
       refine awp_cond _ rfl (fun h46 => ?_) (fun h46 => ?_)
       ·replace H := ift h46 H
        refine awp_seq ?_
        refine awp_plain hN rfl ?_
        refine qe rfl ?_
        refine awp_ret ?_
        replace H := retl H hq17
        cases H
        exact ⟨trivial, .inl rfl, trivial⟩
       ·replace H := iff_ h46 H
        refine awp_joinE (ι := Bool) (fun i => [(3, .ptr 2 0), (30, .dat (vlst (List.map C_api_Tier v2.Tiers))), (31, .dat (vint (v2.Tiers.length : Int))), (32, .dat (vint (k16 : Int))), (48, .dat (vbool i))]) (fun i => [(2, .box none 64 [.dat (vstr v2.Key), .dat (vstr v2.Product), .dat (vint v2.Base), .dat (vint v2.Free), .dat (vlst (List.map C_api_Tier v2.Tiers)), .dat (vint v2.Limit), .dat (vint v2.Trial), .dat (vbool v2.Asked)])]) (fun i => gateref2_planFault_J6 i = some q17) (fun i => rfl) ?_ ?_
        ·skip
         refine awp_draw mixed hN rfl rfl ?_
         refine qd rfl ?_
         refine seq_run0 (stp_gtr rfl rfl) ?_
         refine qd rfl ?_
         refine seq_split (j := 2) rfl rfl (fun h47 => ?_) (fun h47 => ?_) rfl
         ·have h48 := un1 h47
          replace H := ift h48 H
          refine seq_g0 rfl rfl h47 (stp_fldP tyF92_0 rfl) ?_
          refine seq_g1 rfl rfl h47 (stp_load1 tyS3 rfl rfl) rfl ?_
          refine seq_g0 rfl rfl h47 (stp_fldP tyF64_4 rfl) ?_
          refine seq_g1 rfl rfl h47 (stp_load1 tyS62 rfl rfl) rfl ?_
          refine seq_g0 rfl rfl h47 (stp_move (.dat _) rfl) ?_
          refine seq_g0 rfl rfl h47 (stp_sub rfl rfl (by omega)) ?_
          obtain ⟨x49, h50, H⟩ := bnd H
          refine seq_g0 rfl rfl h47 (t_idxI tyE62 (fun _ => rfl) rfl rfl h50) ?_
          refine seq_g0 rfl rfl h47 (stp_fldE tyF92_0 rfl) ?_
          refine seq_g0 rfl rfl h47 (stp_loadE1 tyS3 rfl (map_at (at_some h50).2) rfl) ?_
          refine seq_g0 rfl rfl h47 (stp_leq rfl rfl) ?_
          refine seq_run0 (stp_pick_t rfl (bTT h48) rfl) ?_
          refine qe rfl ?_
          refine ⟨rfl, ?_⟩
          exact ⟨decide (x19.From ≤ x49.From), H, ⟨rfl, rfl, rfl, rfl, rfl, trivial⟩, ⟨rfl, trivial⟩⟩
         ·have h51 := un2 h47
          replace H := iff_ h51 H
          refine seq_skip rfl rfl h47 ?_
          refine seq_skip rfl rfl h47 ?_
          refine seq_skip rfl rfl h47 ?_
          refine seq_skip rfl rfl h47 ?_
          refine seq_skip rfl rfl h47 ?_
          refine seq_skip rfl rfl h47 ?_
          refine seq_skip rfl rfl h47 ?_
          refine seq_skip rfl rfl h47 ?_
          refine seq_skip rfl rfl h47 ?_
          refine seq_skip rfl rfl h47 ?_
          refine seq_run0 (stp_pick_f rfl (bFF h51) rfl) ?_
          refine qe rfl ?_
          refine ⟨rfl, ?_⟩
          exact ⟨false, H, ⟨rfl, rfl, rfl, rfl, rfl, trivial⟩, ⟨rfl, trivial⟩⟩
        ·rintro v52 H
         replace H : gateref2_planFault_J6 v52 = some q17 := H
         unfold gateref2_planFault_J6 at H
         refine awp_cond _ rfl (fun h53 => ?_) (fun h53 => ?_)
         ·replace H := ift h53 H
          refine awp_seq ?_
          refine awp_plain hN rfl ?_
          refine qe rfl ?_
          refine awp_ret ?_
          replace H := retl H hq17
          cases H
          exact ⟨trivial, .inl rfl, trivial⟩
         ·replace H := iff_ h53 H
          refine awp_skip ?_
          refine awp_plain hN rfl ?_
          refine seq_run0 (stp_add rfl rfl (by omega)) ?_
          refine qd rfl ?_
          exact ⟨_, backl H, ⟨rfl, rfl, rfl, rfl, trivial⟩, ⟨rfl, trivial⟩⟩
theorem kr_strings_Split (s sep : Bs) (r : List Bs) (H : m_strings_Split s sep = some r) : FnG Tryz.prog 117 [.dat (vstr s), .dat (vstr sep)] [] (.row 900 r.length) [(900, .row 9 1 (List.map C_string r))] := by
 obtain ⟨h1, h2, rfl⟩ := split_some H
 have hlen := Lib.splitB_all ⟨sep.toArray⟩ (by simpa [ByteArray.size] using h2) 0 _ ⟨s.toArray⟩ rfl
 have hle := Lib.countB_le ⟨sep.toArray⟩ (by simpa [ByteArray.size] using h2) _ ⟨s.toArray⟩ (Nat.le_refl _)
 refine fnG_strs (args := [vstr s, vstr sep]) (splitL s sep) (by kernel_rfl) (fun M w vs hM hvs => ?_) ?_
 ·have hv := Ts_vals (us := [.string ⟨s.toArray⟩, .string ⟨sep.toArray⟩]) hvs
  subst hv
  obtain ⟨m, hm⟩ := maxLen_cell hM
  refine (Tryz.strings_Split ⟨s.toArray⟩ ⟨sep.toArray⟩ m w (by simp [ByteArray.size]; omega) hm (by simpa [ByteArray.size] using h2)).mono ?_
  rintro e w' ⟨rfl, rfl⟩
  have e1 : (splitL s sep).length = Lib.countB ⟨s.toArray⟩ ⟨sep.toArray⟩ + 1 := by unfold splitL; rw [List.length_map, hlen]
  have e2 : ((splitL s sep).map fun s => Value.string ⟨s.toArray⟩) = (Lib.splitB ⟨sep.toArray⟩ 0 (Lib.countB ⟨s.toArray⟩ ⟨sep.toArray⟩) ⟨s.toArray⟩).map Value.string := by
   unfold splitL
   rw [List.map_map]
   exact List.map_congr_left fun b _ => by simp
  rw [e1, e2]
  exact ⟨rfl, rfl⟩
 ·unfold splitL maxLen
  rw [List.length_map, hlen]
  have hsz : (ByteArray.mk s.toArray).size = s.length := by simp [ByteArray.size]
  rw [hsz] at hle
  omega
theorem k_strings_Split (s sep : Bs) (r : List Bs) (H : m_strings_Split s sep = some r) : Fn Tryz.prog 117 [vstr s, vstr sep] (resOf [vlst (List.map C_string r)]) := by
 have h := kr_strings_Split s sep r H
 rw [← List.length_map (f := C_string)] at h
 exact fn_of_fnG h
theorem k_gateref2_scope (s1 : Bs) (r : (Bool)) (H : m_gateref2_scope s1 = some r) : Fn Tryz.prog 87 [vstr s1] (resOf [vbool r]) := by
 refine ⟨by kernel_rfl, pure_of (us := [vbool r]) Tryz.func87 rfl rfl rfl rfl fun X hN => ?_⟩
 unfold m_gateref2_scope at H
 refine awp_seq ?_
 refine awp_plain hN rfl ?_
 refine qe rfl ?_
 refine awp_seq ?_
 refine awp_plain hN rfl ?_
 refine qd rfl ?_
 obtain ⟨r2, h3, H⟩ := bnd H
 refine seq_run0 (stp_call (k_strings_Split s1 [58] r2 h3) ⟨.inl rfl, .inl rfl, trivial⟩) ?_
 refine qe rfl ?_
 refine awp_seq ?_
 refine awp_seq ?_
 refine awp_plain hN rfl ?_
 refine qd rfl ?_
 refine seq_run0 (t_len tyU61 rfl) ?_
 refine qd rfl ?_
 refine awp_block ?_
 obtain ⟨h6, H⟩ := gif H
 refine awp_forL (fun (k4 : Nat) (s : Unit) => [(3, .dat (vlst (List.map C_string r2))), (8, .dat (vlst (List.map C_string r2))), (9, .dat (vint (r2.length : Int))), (10, .dat (vint (k4 : Int)))]) (fun (k4 : Nat) (s : Unit) => []) () H ⟨rfl, rfl, rfl, rfl, trivial⟩ trivial (fun _ _ => rfl) ?_ ?_
 ·rintro ⟨⟩ H
  replace H : gateref2_scope_E1 r2 = some r := H
  unfold gateref2_scope_E1 at H
  refine awp_seq ?_
  refine awp_plain hN rfl ?_
  refine seq_run0 (stp_lss rfl rfl) ?_
  refine awp_seq ?_
  refine awp_cond _ rfl (fun h => (lt_t h).elim) (fun h => ?_)
  refine awp_exit ?_
  refine awp_seq ?_
  refine awp_plain hN rfl ?_
  refine qd rfl ?_
  refine seq_run0 (t_len tyU61 rfl) ?_
  refine seq_run0 (stp_leq rfl rfl) ?_
  refine qe rfl ?_
  refine awp_ret ?_
  cases H
  exact ⟨trivial, .inl rfl, trivial⟩
 ·rintro k4 x7 ⟨⟩ q5 h8 h9 H hq5
  replace H : gateref2_scope_L1 r2 k4 x7 = some q5 := H
  unfold gateref2_scope_L1 at H
  refine awp_seq ?_
  refine awp_plain hN rfl ?_
  refine seq_run0 (stp_lss rfl rfl) ?_
  refine awp_seq ?_
  refine awp_cond _ rfl (fun h => ?_) (fun h => (lt_f h8 h).elim)
  refine awp_skip ?_
  refine awp_seq ?_
  refine awp_block ?_
  refine awp_seq ?_
  refine awp_plain hN rfl ?_
  refine qd rfl ?_
  refine seq_run0 (t_idx tyE61 (fun _ => rfl) rfl rfl h9) ?_
  refine seq_run0 (stp_loadE1 tyS9 rfl (map_at h9) rfl) ?_
  refine qe rfl ?_
  refine qe rfl ?_
  refine awp_seq ?_
  refine awp_plain hN rfl ?_
  refine qd rfl ?_
  obtain ⟨r10, h11, H⟩ := bnd H
  refine seq_run0 (stp_call (k_gateref2_Key x7 r10 h11) ⟨.inl rfl, trivial⟩) ?_
  refine seq_run0 (stp_not rfl) ?_
  refine qd rfl ?_
  refine seq_aT rfl rfl (fun hc => stp_move (.dat _) rfl) ?_
  refine seq_aT rfl rfl (fun hc => stp_sneq (cnd (c := (!r10)) hc) rfl) ?_
  refine seq_aT rfl rfl (fun hc => stp_move (.dat _) (cnd (c := (!r10)) hc)) ?_
  refine seq_bF rfl rfl (fun hc => stp_move (.dat _) rfl) ?_
  refine seq_bF rfl rfl (fun hc => stp_move (.dat _) rfl) ?_
  refine seq_bF rfl rfl (fun hc => t_len tyU61 (cnd (c := ((!r10) && !(decide (x7 ≠ [42])))) hc)) ?_
  refine seq_bF rfl rfl (fun hc => stp_wrap _ (cnd (c := ((!r10) && !(decide (x7 ≠ [42])))) hc) rfl (.inr (.inl ⟨rfl, rfl⟩))) ?_
  refine seq_bF rfl rfl (fun hc => stp_lss (cnd (c := ((!r10) && !(decide (x7 ≠ [42])))) hc) (cnd (c := ((!r10) && !(decide (x7 ≠ [42])))) hc)) ?_
  refine seq_aT rfl rfl (fun hc => stp_pick_or (cnd (c := (!r10)) hc) rfl (fun hb => (cnd (c := ((!r10) && !(decide (x7 ≠ [42])))) (andI hc (notI hb))))) ?_
  refine seq_run0 (stp_pick_and rfl (fun hb => (cnd (c := (!r10)) hb)) rfl) ?_
  refine awp_cond _ rfl (fun h12 => ?_) (fun h12 => ?_)
  ·replace H := ift h12 H
   refine awp_seq ?_
   refine awp_plain hN rfl ?_
   refine qe rfl ?_
   refine awp_ret ?_
   replace H := retl H hq5
   cases H
   exact ⟨trivial, .inl rfl, trivial⟩
  ·replace H := iff_ h12 H
   refine awp_skip ?_
   refine awp_plain hN rfl ?_
   refine seq_run0 (stp_add rfl rfl (by omega)) ?_
   refine qd rfl ?_
   exact ⟨_, backl H, ⟨rfl, rfl, rfl, rfl, trivial⟩, trivial⟩
theorem k_gateref2_ScopesFault (l1 : (List Bs)) (r : (Int)) (H : m_gateref2_ScopesFault l1 = some r) : Fn Tryz.prog 55 [vlst (List.map C_string l1)] (resOf [vint r]) := by
 refine ⟨by kernel_rfl, pure_of (us := [vint r]) Tryz.func55 rfl rfl rfl rfl fun X hN => ?_⟩
 unfold m_gateref2_ScopesFault at H
 refine awp_seq ?_
 refine awp_plain hN rfl ?_
 refine qe rfl ?_
 refine awp_seq ?_
 refine awp_seq ?_
 refine awp_plain hN rfl ?_
 refine qd rfl ?_
 refine seq_run0 (t_len tyU61 rfl) ?_
 refine seq_run0 (stp_gtr rfl rfl) ?_
 refine awp_cond _ rfl (fun h2 => ?_) (fun h2 => ?_)
 ·replace H := ift h2 H
  refine awp_seq ?_
  refine awp_plain hN rfl ?_
  refine qe rfl ?_
  refine awp_ret ?_
  cases H
  exact ⟨trivial, .inl rfl, trivial⟩
 ·replace H := iff_ h2 H
  refine awp_skip ?_
  refine awp_seq ?_
  refine awp_seq ?_
  refine awp_plain hN rfl ?_
  refine qd rfl ?_
  refine seq_run0 (t_len tyU61 rfl) ?_
  refine qd rfl ?_
  refine awp_block ?_
  obtain ⟨h5, H⟩ := gif H
  refine awp_forL (fun (k3 : Nat) (s : Unit) => [(8, .dat (vlst (List.map C_string l1))), (9, .dat (vint (l1.length : Int))), (10, .dat (vint (k3 : Int)))]) (fun (k3 : Nat) (s : Unit) => []) () H ⟨rfl, rfl, rfl, trivial⟩ trivial (fun _ _ => rfl) ?_ ?_
  ·rintro ⟨⟩ H
   replace H : gateref2_ScopesFault_E1 = some r := H
   unfold gateref2_ScopesFault_E1 at H
   refine awp_seq ?_
   refine awp_plain hN rfl ?_
   refine seq_run0 (stp_lss rfl rfl) ?_
   refine awp_seq ?_
   refine awp_cond _ rfl (fun h => (lt_t h).elim) (fun h => ?_)
   refine awp_exit ?_
   refine awp_seq ?_
   refine awp_plain hN rfl ?_
   refine qe rfl ?_
   refine awp_ret ?_
   cases H
   exact ⟨trivial, .inl rfl, trivial⟩
  ·rintro k3 x6 ⟨⟩ q4 h7 h8 H hq4
   replace H : gateref2_ScopesFault_L1 k3 x6 = some q4 := H
   unfold gateref2_ScopesFault_L1 at H
   refine awp_seq ?_
   refine awp_plain hN rfl ?_
   refine seq_run0 (stp_lss rfl rfl) ?_
   refine awp_seq ?_
   refine awp_cond _ rfl (fun h => ?_) (fun h => (lt_f h7 h).elim)
   refine awp_skip ?_
   refine awp_seq ?_
   refine awp_block ?_
   refine awp_seq ?_
   refine awp_plain hN rfl ?_
   refine seq_run0 (t_idx tyE61 (fun _ => rfl) rfl rfl h8) ?_
   refine seq_run0 (stp_loadE1 tyS9 rfl (map_at h8) rfl) ?_
   refine qe rfl ?_
   refine awp_seq ?_
   refine awp_plain hN rfl ?_
   refine qd rfl ?_
   obtain ⟨r9, h10, H⟩ := bnd H
   refine seq_run0 (stp_call (k_gateref2_scope x6 r9 h10) ⟨.inl rfl, trivial⟩) ?_
   refine seq_run0 (stp_not rfl) ?_
   refine awp_cond _ rfl (fun h11 => ?_) (fun h11 => ?_)
   ·replace H := ift h11 H
    refine awp_seq ?_
    refine awp_plain hN rfl ?_
    refine qe rfl ?_
    refine awp_ret ?_
    replace H := retl H hq4
    cases H
    exact ⟨trivial, .inl rfl, trivial⟩
   ·replace H := iff_ h11 H
    refine awp_skip ?_
    refine awp_plain hN rfl ?_
    refine seq_run0 (stp_add rfl rfl (by omega)) ?_
    refine qd rfl ?_
    exact ⟨_, backl H, ⟨rfl, rfl, rfl, trivial⟩, trivial⟩
theorem k_gateref2_CatalogFault (v1 : S_api_Catalog) (r : (Int)) (H : m_gateref2_CatalogFault v1 = some r) : Fn Tryz.prog 26 [vagg (C_api_Catalog v1)] (resOf [vint r]) := by
 refine ⟨by kernel_rfl, pure_of (us := [vint r]) Tryz.func26 rfl rfl rfl rfl fun X hN => ?_⟩
 unfold m_gateref2_CatalogFault at H
 refine awp_seq ?_
 refine awp_plain hN rfl ?_
 refine seq_run2 (stp_boxA 1 rfl) rfl ?_
 refine qe rfl ?_
 refine awp_seq ?_
 refine awp_seq ?_
 refine awp_plain hN rfl ?_
 refine seq_run0 (stp_fldP tyF29_0 rfl) ?_
 refine seq_run1 (stp_load1 tyS26 rfl rfl) rfl ?_
 refine seq_run0 (t_len tyU26 rfl) ?_
 refine seq_run0 (stp_gtr rfl rfl) ?_
 refine awp_cond _ rfl (fun h2 => ?_) (fun h2 => ?_)
 ·replace H := ift h2 H
  refine awp_seq ?_
  refine awp_plain hN rfl ?_
  refine qe rfl ?_
  refine awp_ret ?_
  cases H
  exact ⟨trivial, .inl rfl, trivial⟩
 ·replace H := iff_ h2 H
  refine awp_skip ?_
  refine awp_seq ?_
  refine awp_plain hN rfl ?_
  refine qe rfl ?_
  refine awp_seq ?_
  refine awp_seq ?_
  refine awp_plain hN rfl ?_
  refine seq_run0 (stp_fldP tyF29_0 rfl) ?_
  refine seq_run1 (stp_load1 tyS26 rfl rfl) rfl ?_
  refine seq_run0 (t_len tyU26 rfl) ?_
  refine qd rfl ?_
  refine awp_block ?_
  obtain ⟨h6, H⟩ := gif H
  refine awp_forL (fun (k4 : Nat) (s : Bs) => [(1, .ptr 1 0), (3, .dat (vstr s)), (15, .dat (vlst (List.map C_api_Product v1.Products))), (16, .dat (vint (v1.Products.length : Int))), (17, .dat (vint (k4 : Int)))]) (fun (k4 : Nat) (s : Bs) => [(1, .box none 29 [.dat (vlst (List.map C_api_Product v1.Products)), .dat (vlst (List.map C_api_Plan v1.Plans))])]) [] H ⟨rfl, rfl, rfl, rfl, rfl, trivial⟩ ⟨rfl, trivial⟩ (fun _ _ => rfl) ?_ ?_
  ·rintro v3 H
   replace H : gateref2_CatalogFault_E1 v1 v3 = some r := H
   unfold gateref2_CatalogFault_E1 at H
   refine awp_seq ?_
   refine awp_plain hN rfl ?_
   refine seq_run0 (stp_lss rfl rfl) ?_
   refine awp_seq ?_
   refine awp_cond _ rfl (fun h => (lt_t h).elim) (fun h => ?_)
   refine awp_exit ?_
   refine awp_seq ?_
   refine awp_seq ?_
   refine awp_plain hN rfl ?_
   refine seq_run0 (stp_fldP tyF29_1 rfl) ?_
   refine seq_run1 (stp_load1 tyS27 rfl rfl) rfl ?_
   refine seq_run0 (t_len tyU27 rfl) ?_
   refine seq_run0 (stp_gtr rfl rfl) ?_
   refine awp_cond _ rfl (fun h8 => ?_) (fun h8 => ?_)
   ·replace H := ift h8 H
    refine awp_seq ?_
    refine awp_plain hN rfl ?_
    refine qe rfl ?_
    refine awp_ret ?_
    cases H
    exact ⟨trivial, .inl rfl, trivial⟩
   ·replace H := iff_ h8 H
    refine awp_skip ?_
    refine awp_seq ?_
    refine awp_plain hN rfl ?_
    refine qe rfl ?_
    refine awp_seq ?_
    refine awp_seq ?_
    refine awp_plain hN rfl ?_
    refine seq_run0 (stp_fldP tyF29_1 rfl) ?_
    refine seq_run1 (stp_load1 tyS27 rfl rfl) rfl ?_
    refine seq_run0 (t_len tyU27 rfl) ?_
    refine qd rfl ?_
    refine awp_block ?_
    obtain ⟨h12, H⟩ := gif H
    refine awp_forL (fun (k10 : Nat) (s : Bs) => [(1, .ptr 1 0), (3, .dat (vstr s)), (45, .dat (vlst (List.map C_api_Plan v1.Plans))), (46, .dat (vint (v1.Plans.length : Int))), (47, .dat (vint (k10 : Int)))]) (fun (k10 : Nat) (s : Bs) => [(1, .box none 29 [.dat (vlst (List.map C_api_Product v1.Products)), .dat (vlst (List.map C_api_Plan v1.Plans))])]) [] H ⟨rfl, rfl, rfl, rfl, rfl, trivial⟩ ⟨rfl, trivial⟩ (fun _ _ => rfl) ?_ ?_
    ·rintro v9 H
     replace H : gateref2_CatalogFault_E2 v9 = some r := H
     unfold gateref2_CatalogFault_E2 at H
     refine awp_seq ?_
     refine awp_plain hN rfl ?_
     refine seq_run0 (stp_lss rfl rfl) ?_
     refine awp_seq ?_
     refine awp_cond _ rfl (fun h => (lt_t h).elim) (fun h => ?_)
     refine awp_exit ?_
     refine awp_seq ?_
     refine awp_plain hN rfl ?_
     refine qe rfl ?_
     refine awp_ret ?_
     cases H
     exact ⟨trivial, .inl rfl, trivial⟩
    ·rintro k10 x13 v9 q11 h14 h15 H hq11
     replace H : gateref2_CatalogFault_L2 v1 k10 x13 v9 = some q11 := H
     unfold gateref2_CatalogFault_L2 at H
     refine awp_seq ?_
     refine awp_plain hN rfl ?_
     refine seq_run0 (stp_lss rfl rfl) ?_
     refine awp_seq ?_
     refine awp_cond _ rfl (fun h => ?_) (fun h => (lt_f h14 h).elim)
     refine awp_skip ?_
     refine awp_seq ?_
     refine awp_block ?_
     refine awp_seq ?_
     refine awp_plain hN rfl ?_
     refine seq_run0 (t_idx tyE27 (fun _ => rfl) rfl rfl h15) ?_
     refine seq_run0 (stp_loadEA tyS64 rfl (map_at h15) rfl) ?_
     refine seq_run2 (stp_alloc 2 tyZ64 rfl) rfl ?_
     refine seq_run2 (stp_storeW tyS64 rfl rfl rfl rfl) rfl ?_
     refine awp_seq ?_
     refine awp_block ?_
     refine awp_seq ?_
     refine awp_plain hN rfl ?_
     refine seq_run0 (stp_fldP tyF64_0 rfl) ?_
     refine seq_run1 (stp_load1 tyS9 rfl rfl) rfl ?_
     obtain ⟨r16, h17, H⟩ := bnd H
     refine seq_run0 (stp_call (k_gateref2_Key x13.Key r16 h17) ⟨.inl rfl, trivial⟩) ?_
     refine seq_run0 (stp_not rfl) ?_
     refine qe rfl ?_
     refine awp_cond _ rfl (fun h18 => ?_) (fun h18 => ?_)
     ·replace H := ift h18 H
      refine awp_seq ?_
      refine awp_plain hN rfl ?_
      refine qe rfl ?_
      refine awp_ret ?_
      replace H := retl H hq11
      cases H
      exact ⟨trivial, .inl rfl, trivial⟩
     ·replace H := iff_ h18 H
      refine awp_seq ?_
      refine awp_plain hN rfl ?_
      refine seq_run0 (stp_fldP tyF64_0 rfl) ?_
      refine seq_run1 (stp_load1 tyS9 rfl rfl) rfl ?_
      refine qd rfl ?_
      refine seq_run0 (stp_sleq rfl rfl) ?_
      refine qe rfl ?_
      refine awp_cond _ rfl (fun h19 => ?_) (fun h19 => ?_)
      ·replace H := ift h19 H
       refine awp_seq ?_
       refine awp_plain hN rfl ?_
       refine qe rfl ?_
       refine awp_ret ?_
       replace H := retl H hq11
       cases H
       exact ⟨trivial, .inl rfl, trivial⟩
      ·replace H := iff_ h19 H
       refine awp_skip ?_
       refine awp_seq ?_
       refine awp_plain hN rfl ?_
       refine seq_run0 (stp_fldP tyF64_0 rfl) ?_
       refine seq_run1 (stp_load1 tyS9 rfl rfl) rfl ?_
       refine qe rfl ?_
       refine awp_seq ?_
       refine awp_plain hN rfl ?_
       refine seq_run1 (stp_loadA tyS29 rfl rfl rfl) rfl ?_
       refine seq_run1 (stp_loadA tyS64 rfl rfl rfl) rfl ?_
       obtain ⟨r20, h21, H⟩ := bnd H
       refine seq_run0 (stp_call (k_gateref2_planFault v1 x13 r20 h21) ⟨.inl rfl, .inl rfl, trivial⟩) ?_
       refine qe rfl ?_
       refine awp_seq ?_
       refine awp_plain hN rfl ?_
       refine qd rfl ?_
       refine seq_run0 (stp_neq rfl rfl) ?_
       refine awp_cond _ rfl (fun h22 => ?_) (fun h22 => ?_)
       ·replace H := ift h22 H
        refine awp_seq ?_
        refine awp_plain hN rfl ?_
        refine qd rfl ?_
        refine qe rfl ?_
        refine awp_ret ?_
        replace H := retl H hq11
        cases H
        exact ⟨trivial, .inl rfl, trivial⟩
       ·replace H := iff_ h22 H
        refine awp_skip ?_
        refine awp_plain hN rfl ?_
        refine seq_run0 (stp_add rfl rfl (by omega)) ?_
        refine qd rfl ?_
        exact ⟨_, backl H, ⟨rfl, rfl, rfl, rfl, rfl, trivial⟩, ⟨rfl, trivial⟩⟩
  ·rintro k4 x7 v3 q5 h23 h24 H hq5
   replace H : gateref2_CatalogFault_L1 k4 x7 v3 = some q5 := H
   unfold gateref2_CatalogFault_L1 at H
   refine awp_seq ?_
   refine awp_plain hN rfl ?_
   refine seq_run0 (stp_lss rfl rfl) ?_
   refine awp_seq ?_
   refine awp_cond _ rfl (fun h => ?_) (fun h => (lt_f h23 h).elim)
   refine awp_skip ?_
   refine awp_seq ?_
   refine awp_block ?_
   refine awp_seq ?_
   refine awp_plain hN rfl ?_
   refine seq_run0 (t_idx tyE26 (fun _ => rfl) rfl rfl h24) ?_
   refine seq_run0 (stp_loadEA tyS89 rfl (map_at h24) rfl) ?_
   refine seq_run2 (stp_alloc 3 tyZ89 rfl) rfl ?_
   refine seq_run2 (stp_storeW tyS89 rfl rfl rfl rfl) rfl ?_
   refine awp_seq ?_
   refine awp_block ?_
   refine awp_seq ?_
   refine awp_plain hN rfl ?_
   refine seq_run0 (stp_fldP tyF89_0 rfl) ?_
   refine seq_run1 (stp_load1 tyS9 rfl rfl) rfl ?_
   obtain ⟨r25, h26, H⟩ := bnd H
   refine seq_run0 (stp_call (k_gateref2_Key x7.Key r25 h26) ⟨.inl rfl, trivial⟩) ?_
   refine seq_run0 (stp_not rfl) ?_
   refine qe rfl ?_
   refine awp_cond _ rfl (fun h27 => ?_) (fun h27 => ?_)
   ·replace H := ift h27 H
    refine awp_seq ?_
    refine awp_plain hN rfl ?_
    refine qe rfl ?_
    refine awp_ret ?_
    replace H := retl H hq5
    cases H
    exact ⟨trivial, .inl rfl, trivial⟩
   ·replace H := iff_ h27 H
    refine awp_seq ?_
    refine awp_plain hN rfl ?_
    refine seq_run0 (stp_fldP tyF89_0 rfl) ?_
    refine seq_run1 (stp_load1 tyS9 rfl rfl) rfl ?_
    refine qd rfl ?_
    refine seq_run0 (stp_sleq rfl rfl) ?_
    refine qe rfl ?_
    refine awp_cond _ rfl (fun h28 => ?_) (fun h28 => ?_)
    ·replace H := ift h28 H
     refine awp_seq ?_
     refine awp_plain hN rfl ?_
     refine qe rfl ?_
     refine awp_ret ?_
     replace H := retl H hq5
     cases H
     exact ⟨trivial, .inl rfl, trivial⟩
    ·replace H := iff_ h28 H
     refine awp_skip ?_
     refine awp_seq ?_
     refine awp_plain hN rfl ?_
     refine seq_run0 (stp_fldP tyF89_0 rfl) ?_
     refine seq_run1 (stp_load1 tyS9 rfl rfl) rfl ?_
     refine qe rfl ?_
     refine awp_seq ?_
     refine awp_plain hN rfl ?_
     refine seq_run0 (stp_fldP tyF89_1 rfl) ?_
     refine seq_run1 (stp_load1 tyS61 rfl rfl) rfl ?_
     obtain ⟨r29, h30, H⟩ := bnd H
     refine seq_run0 (stp_call (k_gateref2_ScopesFault x7.Scopes r29 h30) ⟨.inl rfl, trivial⟩) ?_
     refine qe rfl ?_
     refine awp_seq ?_
     refine awp_plain hN rfl ?_
     refine qd rfl ?_
     refine seq_run0 (stp_neq rfl rfl) ?_
     refine awp_cond _ rfl (fun h31 => ?_) (fun h31 => ?_)
     ·replace H := ift h31 H
      refine awp_seq ?_
      refine awp_plain hN rfl ?_
      refine qd rfl ?_
      refine qe rfl ?_
      refine awp_ret ?_
      replace H := retl H hq5
      cases H
      exact ⟨trivial, .inl rfl, trivial⟩
     ·replace H := iff_ h31 H
      refine awp_skip ?_
      refine awp_plain hN rfl ?_
      refine seq_run0 (stp_add rfl rfl (by omega)) ?_
      refine qd rfl ?_
      exact ⟨_, backl H, ⟨rfl, rfl, rfl, rfl, rfl, trivial⟩, ⟨rfl, trivial⟩⟩
theorem k_gateref2_none  (r : (S_api_Sub)) (H : m_gateref2_none  = some r) : Fn Tryz.prog 57 [] (resOf [vagg (C_api_Sub r)]) := by
 refine ⟨by kernel_rfl, pure_of (us := [vagg (C_api_Sub r)]) Tryz.func57 rfl rfl rfl rfl fun X hN => ?_⟩
 unfold m_gateref2_none at H
 refine awp_seq ?_
 refine awp_plain hN rfl ?_
 refine seq_run2 (stp_alloc 1 tyZ70 rfl) rfl ?_
 refine awp_seq ?_
 refine awp_plain hN rfl ?_
 refine seq_run0 (stp_dat (u' := vagg (C_api_Sub (S_api_Sub.mk 0 [] 0 (-1)))) (stp_build [(3, [vint (-1)])] tyZ70 tyP70 rfl ⟨rfl, .inl ⟨_, rfl, rfl, rfl⟩, rfl, trivial⟩) rfl) ?_
 refine seq_run2 (stp_storeW tyS70 rfl rfl rfl rfl) rfl ?_
 refine awp_ret ?_
 cases H
 exact ⟨trivial, .inl ⟨_, _, _, C_api_Sub (S_api_Sub.mk 0 [] 0 (-1)), rfl, rfl, rfl, rfl, tyS70⟩, trivial⟩
theorem k_slices_IndexFunc_L_api_Plan_api_Plan_ (s1 : (List S_api_Plan)) (p1 : S_api_Plan → Option (Bool)) (fv1 : Nat) (us1 : List V) (hp1 : ∀ a0 r, p1 a0 = some r → Fn Tryz.prog fv1 ([vagg (C_api_Plan a0)] ++ us1) (resOf [vbool r])) (r : (Int)) (H : m_slices_IndexFunc_L_api_Plan_api_Plan_ s1 p1 = some r) : Fn Tryz.prog 76 [vlst (List.map C_api_Plan s1), vfn fv1 us1] (resOf [vint r]) := by
 refine ⟨by kernel_rfl, pure_of (us := [vint r]) Tryz.func76 rfl rfl rfl rfl fun X hN => ?_⟩
 unfold m_slices_IndexFunc_L_api_Plan_api_Plan_ at H
 refine awp_seq ?_
 refine awp_plain hN rfl ?_
 refine qe rfl ?_
 refine awp_seq ?_
 refine awp_seq ?_
 refine awp_plain hN rfl ?_
 refine qd rfl ?_
 refine seq_run0 (t_len tyU27 rfl) ?_
 refine qd rfl ?_
 refine awp_block ?_
 obtain ⟨h4, H⟩ := gif H
 refine awp_forL (fun (k2 : Nat) (s : Unit) => [(0, .dat (vlst (List.map C_api_Plan s1))), (1, .dat (vfn fv1 us1)), (7, .dat (vint (s1.length : Int))), (8, .dat (vint (k2 : Int)))]) (fun (k2 : Nat) (s : Unit) => []) () H ⟨rfl, rfl, rfl, rfl, trivial⟩ trivial (fun _ _ => rfl) ?_ ?_
 ·rintro ⟨⟩ H
  replace H : slices_IndexFunc_L_api_Plan_api_Plan__E1 = some r := H
  unfold slices_IndexFunc_L_api_Plan_api_Plan__E1 at H
  refine awp_seq ?_
  refine awp_plain hN rfl ?_
  refine seq_run0 (stp_lss rfl rfl) ?_
  refine awp_seq ?_
  refine awp_cond _ rfl (fun h => (lt_t h).elim) (fun h => ?_)
  refine awp_exit ?_
  refine awp_seq ?_
  refine awp_plain hN rfl ?_
  refine qe rfl ?_
  refine awp_ret ?_
  cases H
  exact ⟨trivial, .inl rfl, trivial⟩
 ·rintro k2 x5 ⟨⟩ q3 h6 h7 H hq3
  replace H : slices_IndexFunc_L_api_Plan_api_Plan__L1 p1 k2 x5 = some q3 := H
  unfold slices_IndexFunc_L_api_Plan_api_Plan__L1 at H
  refine awp_seq ?_
  refine awp_plain hN rfl ?_
  refine seq_run0 (stp_lss rfl rfl) ?_
  refine awp_seq ?_
  refine awp_cond _ rfl (fun h => ?_) (fun h => (lt_f h6 h).elim)
  refine awp_skip ?_
  refine awp_seq ?_
  refine awp_block ?_
  refine awp_seq ?_
  refine awp_plain hN rfl ?_
  refine qd rfl ?_
  refine qe rfl ?_
  refine awp_seq ?_
  refine awp_plain hN rfl ?_
  refine qd rfl ?_
  refine qd rfl ?_
  refine qd rfl ?_
  refine seq_run0 (t_idx tyE27 (fun _ => rfl) rfl rfl h7) ?_
  refine seq_run0 (stp_loadEA tyS64 rfl (map_at h7) rfl) ?_
  obtain ⟨r8, h9, H⟩ := bnd H
  refine seq_run0 (stp_callv (hp1 x5 r8 h9) rfl ⟨.inl rfl, trivial⟩) ?_
  refine awp_cond _ rfl (fun h10 => ?_) (fun h10 => ?_)
  ·replace H := ift h10 H
   refine awp_seq ?_
   refine awp_plain hN rfl ?_
   refine qd rfl ?_
   refine qe rfl ?_
   refine awp_ret ?_
   replace H := retl H hq3
   cases H
   exact ⟨trivial, .inl rfl, trivial⟩
  ·replace H := iff_ h10 H
   refine awp_skip ?_
   refine awp_plain hN rfl ?_
   refine seq_run0 (stp_add rfl rfl (by omega)) ?_
   refine qd rfl ?_
   exact ⟨_, backl H, ⟨rfl, rfl, rfl, rfl, trivial⟩, trivial⟩
theorem k_gateref2_PlanAt_1 (p1 : S_api_Plan) (c2 : Bs) (r : (Bool)) (H : m_gateref2_PlanAt_1 p1 c2 = some r) : Fn Tryz.prog 77 [vagg (C_api_Plan p1), vcell [[vstr c2]] 0 0] (resOf [vbool r]) := by
 refine ⟨by kernel_rfl, pure_of (us := [vbool r]) Tryz.func77 rfl rfl rfl rfl fun X hN => ?_⟩
 unfold m_gateref2_PlanAt_1 at H
 refine awp_seq ?_
 refine awp_plain hN rfl ?_
 refine seq_run2 (stp_boxA 1 rfl) rfl ?_
 refine qe rfl ?_
 refine awp_seq ?_
 refine awp_plain hN rfl ?_
 refine seq_run0 (stp_fldP tyF64_0 rfl) ?_
 refine seq_run1 (stp_load1 tyS9 rfl rfl) rfl ?_
 refine seq_run0 (stp_loadE1 tyS9 rfl rfl rfl) ?_
 refine seq_run0 (stp_seql rfl rfl) ?_
 refine qe rfl ?_
 refine awp_ret ?_
 cases H
 exact ⟨trivial, .inl rfl, trivial⟩
theorem k_gateref2_PlanAt (c1 : S_api_Catalog) (key2 : Bs) (r : (Int)) (H : m_gateref2_PlanAt c1 key2 = some r) : Fn Tryz.prog 45 [vagg (C_api_Catalog c1), vstr key2] (resOf [vint r]) := by
 refine ⟨by kernel_rfl, pure_of (us := [vint r]) Tryz.func45 rfl rfl rfl rfl fun X hN => ?_⟩
 unfold m_gateref2_PlanAt at H
 refine awp_seq ?_
 refine awp_plain hN rfl ?_
 refine seq_run2 (stp_boxA 1 rfl) rfl ?_
 refine seq_run2 (stp_box1 2 rfl rfl) rfl ?_
 refine qe rfl ?_
 refine awp_seq ?_
 refine awp_frzB 2 [vstr key2] rfl rfl ?_
 refine awp_plain hN rfl ?_
 refine seq_run0 (stp_fldP tyF29_1 rfl) ?_
 refine seq_run1 (stp_load1 tyS27 rfl rfl) rfl ?_
 refine seq_run0 (stp_mkfn (us := [_]) ⟨rfl, trivial⟩) ?_
 obtain ⟨r3, h4, H⟩ := bnd H
 refine seq_run0 (stp_call (k_slices_IndexFunc_L_api_Plan_api_Plan_ c1.Plans (fun (a0 : S_api_Plan) => m_gateref2_PlanAt_1 a0 key2) 77 [vcell [[vstr key2]] 0 0] (fun a0 r h => k_gateref2_PlanAt_1 a0 key2 r h) r3 h4) ⟨.inl rfl, .inl rfl, trivial⟩) ?_
 refine qe rfl ?_
 refine awp_ret ?_
 cases H
 exact ⟨trivial, .inl rfl, trivial⟩
end Go.Proofs.YtaolapgdgdmapaaGreatDoor
