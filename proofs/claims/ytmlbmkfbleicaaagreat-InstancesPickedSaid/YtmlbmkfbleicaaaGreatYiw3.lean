/- Walks along the models. Printed by a program. -/
import Derived.Test.YtmlbmkfbleicaaaGreatYiw2
namespace Go.Proofs.YtmlbmkfbleicaaaGreat
open Go.RowKit
set_option linter.unusedVariables false
set_option maxRecDepth 20000
set_option maxHeartbeats 2000000
theorem kt_slices_insertionSortCmpFunc_string_ (data1 : (List Bs)) (a2 : Int) (b3 : Int) (p3 : Bs → Bs → Option (Int)) (fv3 : Nat) (us3 : List V) (hp3 : ∀ a0 a1 r, p3 a0 a1 = some r → Fn Tryz.prog fv3 ([vstr a0, vstr a1] ++ us3) (resOf [vint r])) (r : ((List Bs))) (H : m_slices_insertionSortCmpFunc_string_ data1 a2 b3 p3 = some r) : FnG Tryz.prog 79 [.row 0 data1.length, .dat (vint a2), .dat (vint b3), .dat (vfn fv3 us3)] [(0, .rowA undef 9 1 (List.map C_string data1))] (.dat (resOf [])) [(0, .rowA undef 9 1 (List.map C_string r))] := by
 refine fnG_of (by kernel_rfl) Tryz.func79 rfl rfl rfl rfl fun X A hN => ?_
 unfold m_slices_insertionSortCmpFunc_string_ at H
 refine awp_seq ?_
 refine awp_plain hN rfl ?_
 refine qd rfl ?_
 refine seq_run0 (stp_wrap _ rfl rfl (.inl ⟨rfl, rfl⟩)) ?_
 refine qe rfl ?_
 refine awp_block ?_
 refine awp_iter (fun (s : Int × (List Bs)) => [(0, .row 0 s.2.length), (1, .dat (vint a2)), (2, .dat (vint b3)), (3, .dat (vfn fv3 us3)), (8, .dat (vint s.1))]) (fun (s : Int × (List Bs)) => [(0, .rowA (A.vl 0) 9 1 (List.map C_string s.2))]) (wr (a2 + 1), data1) H ⟨rfl, rfl, rfl, rfl, rfl, trivial⟩ ⟨rfl, trivial⟩ (fun _ => rfl) ?_
 rintro ⟨i4, l5⟩ q6 H hq6
 replace H : slices_insertionSortCmpFunc_string__L1 a2 b3 p3 i4 l5 = some q6 := H
 unfold slices_insertionSortCmpFunc_string__L1 at H
 refine awp_seq ?_
 refine awp_seq ?_
 refine awp_plain hN rfl ?_
 refine qd rfl ?_
 refine qd rfl ?_
 refine seq_run0 (stp_lss rfl rfl) ?_
 refine awp_cond _ rfl (fun h7 => ?_) (fun h7 => ?_)
 ·replace H := ift h7 H
  refine awp_skip ?_
  refine awp_joinE (ι := (List Bs)) (fun i => [(0, .row 0 i.length), (1, .dat (vint a2)), (2, .dat (vint b3)), (3, .dat (vfn fv3 us3)), (8, .dat (vint i4))]) (fun i => [(0, .rowA (A.vl 0) 9 1 (List.map C_string i))]) (fun i => slices_insertionSortCmpFunc_string__J2 i4 i = some q6) (fun i => rfl) ?_ ?_
  ·skip
   refine awp_block ?_
   refine awp_seq ?_
   refine awp_plain hN rfl ?_
   refine qd rfl ?_
   refine qe rfl ?_
   refine awp_block ?_
   refine awp_iter (fun (s : Int × (List Bs)) => [(0, .row 0 s.2.length), (1, .dat (vint a2)), (2, .dat (vint b3)), (3, .dat (vfn fv3 us3)), (8, .dat (vint i4)), (9, .dat (vint s.1))]) (fun (s : Int × (List Bs)) => [(0, .rowA (A.vl 0) 9 1 (List.map C_string s.2))]) (i4, l5) H ⟨rfl, rfl, rfl, rfl, rfl, rfl, trivial⟩ ⟨rfl, trivial⟩ (fun _ => rfl) ?_
   rintro ⟨j8, l9⟩ q10 H hq10
   replace H : slices_insertionSortCmpFunc_string__L3 a2 p3 i4 j8 l9 = some q10 := H
   unfold slices_insertionSortCmpFunc_string__L3 at H
   refine awp_seq ?_
   refine awp_joinE (ι := Bool) (fun i => [(0, .row 0 l9.length), (1, .dat (vint a2)), (2, .dat (vint b3)), (3, .dat (vfn fv3 us3)), (8, .dat (vint i4)), (9, .dat (vint j8)), (34, .dat (vbool i))]) (fun i => [(0, .rowA (A.vl 0) 9 1 (List.map C_string l9))]) (fun i => slices_insertionSortCmpFunc_string__J4 i4 j8 l9 i = some q10) (fun i => rfl) ?_ ?_
   ·skip
    refine awp_draw mixed hN rfl rfl ?_
    refine qd rfl ?_
    refine qd rfl ?_
    refine seq_run0 (stp_gtr rfl rfl) ?_
    refine qd rfl ?_
    refine seq_split (j := 3) rfl rfl (fun h11 => ?_) (fun h11 => ?_) rfl
    ·have h12 := un1 h11
     replace H := ift h12 H
     refine seq_g0 rfl rfl h11 (stp_move (.dat _) rfl) ?_
     refine seq_g0 rfl rfl h11 (stp_move (.row _ _) rfl) ?_
     refine seq_g0 rfl rfl h11 (stp_move (.dat _) rfl) ?_
     obtain ⟨x13, h14, H⟩ := bnd H
     refine seq_g1 rfl rfl h11 (t_idxTI tyE32 rfl rfl rfl h14) rfl ?_
     refine seq_g1 rfl rfl h11 (t_loadT1 tyS9 rfl rfl (at_some h14).2 rfl) rfl ?_
     refine seq_g0 rfl rfl h11 (stp_move (.row _ _) rfl) ?_
     refine seq_g0 rfl rfl h11 (stp_move (.dat _) rfl) ?_
     refine seq_g0 rfl rfl h11 (stp_wrap _ rfl rfl (.inr (.inl ⟨rfl, rfl⟩))) ?_
     obtain ⟨x15, h16, H⟩ := bnd H
     refine seq_g1 rfl rfl h11 (t_idxTI tyE32 rfl rfl rfl h16) rfl ?_
     refine seq_g1 rfl rfl h11 (t_loadT1 tyS9 rfl rfl (at_some h16).2 rfl) rfl ?_
     obtain ⟨r17, h18, H⟩ := bnd H
     refine seq_g0 rfl rfl h11 (stp_callv (hp3 x13 x15 r17 h18) rfl ⟨.inl rfl, .inl rfl, trivial⟩) ?_
     refine seq_g0 rfl rfl h11 (stp_lss rfl rfl) ?_
     refine seq_run0 (stp_pick_t rfl (bTT h12) rfl) ?_
     refine ⟨rfl, ?_⟩
     exact ⟨decide (r17 < 0), H, ⟨rfl, rfl, rfl, rfl, rfl, rfl, rfl, trivial⟩, ⟨rfl, trivial⟩⟩
    ·have h19 := un2 h11
     replace H := iff_ h19 H
     refine seq_skip rfl rfl h11 ?_
     refine seq_skip rfl rfl h11 ?_
     refine seq_skip rfl rfl h11 ?_
     refine seq_skip rfl rfl h11 ?_
     refine seq_skip rfl rfl h11 ?_
     refine seq_skip rfl rfl h11 ?_
     refine seq_skip rfl rfl h11 ?_
     refine seq_skip rfl rfl h11 ?_
     refine seq_skip rfl rfl h11 ?_
     refine seq_skip rfl rfl h11 ?_
     refine seq_skip rfl rfl h11 ?_
     refine seq_skip rfl rfl h11 ?_
     refine seq_run0 (stp_pick_f rfl (bFF h19) rfl) ?_
     refine ⟨rfl, ?_⟩
     exact ⟨false, H, ⟨rfl, rfl, rfl, rfl, rfl, rfl, rfl, trivial⟩, ⟨rfl, trivial⟩⟩
   ·rintro v20 H
    replace H : slices_insertionSortCmpFunc_string__J4 i4 j8 l9 v20 = some q10 := H
    unfold slices_insertionSortCmpFunc_string__J4 at H
    refine awp_cond _ rfl (fun h21 => ?_) (fun h21 => ?_)
    ·replace H := ift h21 H
     refine awp_skip ?_
     refine awp_seq ?_
     refine awp_block ?_
     refine awp_draw mixed hN rfl rfl ?_
     refine seq_run0 (stp_move (.row _ _) rfl) ?_
     refine qd rfl ?_
     refine seq_run0 (stp_move (.row _ _) rfl) ?_
     refine qd rfl ?_
     refine seq_run0 (stp_wrap _ rfl rfl (.inr (.inl ⟨rfl, rfl⟩))) ?_
     refine seq_run0 (stp_move (.row _ _) rfl) ?_
     refine qd rfl ?_
     refine seq_run0 (stp_wrap _ rfl rfl (.inr (.inl ⟨rfl, rfl⟩))) ?_
     obtain ⟨x22, h23, H⟩ := bnd H
     refine seq_run1 (t_idxTI tyE32 rfl rfl rfl h23) rfl ?_
     refine seq_run1 (t_loadT1 tyS9 rfl rfl (at_some h23).2 rfl) rfl ?_
     refine seq_run0 (stp_move (.row _ _) rfl) ?_
     refine qd rfl ?_
     obtain ⟨x24, h25, H⟩ := bnd H
     refine seq_run1 (t_idxTI tyE32 rfl rfl rfl h25) rfl ?_
     refine seq_run1 (t_loadT1 tyS9 rfl rfl (at_some h25).2 rfl) rfl ?_
     refine seq_run1 (t_idxTI tyE32 rfl rfl rfl h25) rfl ?_
     refine seq_run2 (t_storeT1 (y := x22) tyS9 rfl rfl rfl rfl (at_lt (at_some h25).2) (fun _ => rfl) rfl) rfl ?_
     obtain ⟨x26, h27, H⟩ := bnd H
     refine seq_run1 (t_idxTI tyE32 rfl (by simp) rfl h27) rfl ?_
     refine seq_run2 (t_storeT1 (y := x24) tyS9 rfl rfl rfl (by simp) (at_lt (at_some h27).2) (fun _ => rfl) rfl) rfl ?_
     refine ⟨rfl, ?_⟩
     refine awp_plain hN rfl ?_
     refine qd rfl ?_
     refine seq_run0 (stp_wrap _ rfl rfl (.inr (.inl ⟨rfl, rfl⟩))) ?_
     refine qe rfl ?_
     exact ⟨_, backl H, ⟨congrArg (Slot.row 0) (by simp), rfl, rfl, rfl, rfl, rfl, trivial⟩, ⟨rfl, trivial⟩⟩
    ·replace H := iff_ h21 H
     refine awp_exit ?_
     replace H := outl H hq10
     exact ⟨l9, H, ⟨rfl, rfl, rfl, rfl, rfl, trivial⟩, ⟨rfl, trivial⟩⟩
  ·rintro data28 H
   replace H : slices_insertionSortCmpFunc_string__J2 i4 data28 = some q6 := H
   unfold slices_insertionSortCmpFunc_string__J2 at H
   refine awp_plain hN rfl ?_
   refine qd rfl ?_
   refine seq_run0 (stp_wrap _ rfl rfl (.inl ⟨rfl, rfl⟩)) ?_
   refine qe rfl ?_
   exact ⟨_, backl H, ⟨rfl, rfl, rfl, rfl, rfl, trivial⟩, ⟨rfl, trivial⟩⟩
 ·replace H := iff_ h7 H
  refine awp_exit ?_
  replace H := retl H hq6
  have eH : l5 = r := Option.some.inj H
  subst eH
  exact ⟨trivial, [], trivial, ⟨rfl, trivial⟩, rfl, .inl ⟨[], trivial, rfl⟩⟩
theorem kt_slices_stableCmpFunc_string_ (data1 : (List Bs)) (n2 : Int) (p2 : Bs → Bs → Option (Int)) (fv2 : Nat) (us2 : List V) (hp2 : ∀ a0 a1 r, p2 a0 a1 = some r → Fn Tryz.prog fv2 ([vstr a0, vstr a1] ++ us2) (resOf [vint r])) (r : ((List Bs))) (H : m_slices_stableCmpFunc_string_ data1 n2 p2 = some r) : FnG Tryz.prog 68 [.row 0 data1.length, .dat (vint n2), .dat (vfn fv2 us2)] [(0, .rowA undef 9 1 (List.map C_string data1))] (.dat (resOf [])) [(0, .rowA undef 9 1 (List.map C_string r))] := by
 refine fnG_of (by kernel_rfl) Tryz.func68 rfl rfl rfl rfl fun X A hN => ?_
 unfold m_slices_stableCmpFunc_string_ at H
 refine awp_seq ?_
 refine awp_plain hN rfl ?_
 refine qe rfl ?_
 refine awp_seq ?_
 refine awp_plain hN rfl ?_
 refine qd rfl ?_
 refine qe rfl ?_
 refine qe rfl ?_
 refine awp_joinE (ι := Int × (List Bs)) (fun i => [(0, .row 0 i.2.length), (1, .dat (vint n2)), (2, .dat (vfn fv2 us2)), (6, .dat (vint 20)), (7, .dat (vint i.1))]) (fun i => [(0, .rowA (A.vl 0) 9 1 (List.map C_string i.2))]) (fun i => slices_stableCmpFunc_string__J1 n2 p2 i.1 i.2 = some r) (fun i => rfl) ?_ ?_
 ·skip
  refine awp_block ?_
  refine awp_iter (fun (s : Int × Int × (List Bs)) => [(0, .row 0 s.2.2.length), (1, .dat (vint n2)), (2, .dat (vfn fv2 us2)), (6, .dat (vint 20)), (7, .dat (vint s.1)), (8, .dat (vint s.2.1))]) (fun (s : Int × Int × (List Bs)) => [(0, .rowA (A.vl 0) 9 1 (List.map C_string s.2.2))]) (0, 20, data1) H ⟨rfl, rfl, rfl, rfl, rfl, rfl, trivial⟩ ⟨rfl, trivial⟩ (fun _ => rfl) ?_
  rintro ⟨a3, b4, l5⟩ q6 H hq6
  replace H : slices_stableCmpFunc_string__L2 n2 p2 a3 b4 l5 = some q6 := H
  unfold slices_stableCmpFunc_string__L2 at H
  refine awp_seq ?_
  refine awp_seq ?_
  refine awp_plain hN rfl ?_
  refine qd rfl ?_
  refine qd rfl ?_
  refine seq_run0 (stp_leq rfl rfl) ?_
  refine awp_cond _ rfl (fun h7 => ?_) (fun h7 => ?_)
  ·replace H := ift h7 H
   refine awp_skip ?_
   refine awp_block ?_
   refine awp_seq ?_
   refine awp_plain hN rfl ?_
   refine seq_run0 (stp_move (.row _ _) rfl) ?_
   refine qd rfl ?_
   refine qd rfl ?_
   refine qd rfl ?_
   obtain ⟨r8, h9, H⟩ := bnd H
   obtain ⟨h10, H⟩ := gif H
   refine seq_callG (rn [(0, 0)]) [(0, _, _, some _)] [] (kt_slices_insertionSortCmpFunc_string_ l5 a3 b4 p2 fv2 us2 hp2 r8 h9) ⟨rfl, trivial⟩ ⟨.inl (.inl rfl), .inl (.inl rfl), .inl (.inl rfl), .inl (.inl rfl), trivial⟩ ⟨⟨⟨rfl, rfl, rfl⟩, by simp [stayP, h10]⟩, trivial⟩ rfl ?_
   refine awp_seq ?_
   refine awp_plain hN rfl ?_
   refine qd rfl ?_
   refine qe rfl ?_
   refine awp_plain hN rfl ?_
   refine qd rfl ?_
   refine qd rfl ?_
   refine seq_run0 (stp_wrap _ rfl rfl (.inl ⟨rfl, rfl⟩)) ?_
   refine qe rfl ?_
   exact ⟨_, backl H, ⟨congrArg (Slot.row 0) ((h10).symm).symm, rfl, rfl, rfl, rfl, rfl, trivial⟩, ⟨rfl, trivial⟩⟩
  ·replace H := iff_ h7 H
   refine awp_exit ?_
   replace H := outl H hq6
   exact ⟨(a3, l5), H, ⟨rfl, rfl, rfl, rfl, rfl, trivial⟩, ⟨rfl, trivial⟩⟩
 ·rintro ⟨a11, data12⟩ H
  replace H : slices_stableCmpFunc_string__J1 n2 p2 a11 data12 = some r := H
  unfold slices_stableCmpFunc_string__J1 at H
  refine awp_seq ?_
  refine awp_plain hN rfl ?_
  refine seq_run0 (stp_move (.row _ _) rfl) ?_
  refine qd rfl ?_
  refine qd rfl ?_
  refine qd rfl ?_
  obtain ⟨r13, h14, H⟩ := bnd H
  obtain ⟨h15, H⟩ := gif H
  refine seq_callG (rn [(0, 0)]) [(0, _, _, some _)] [] (kt_slices_insertionSortCmpFunc_string_ data12 a11 n2 p2 fv2 us2 hp2 r13 h14) ⟨rfl, trivial⟩ ⟨.inl (.inl rfl), .inl (.inl rfl), .inl (.inl rfl), .inl (.inl rfl), trivial⟩ ⟨⟨⟨rfl, rfl, rfl⟩, by simp [stayP, h15]⟩, trivial⟩ rfl ?_
  refine awp_block ?_
  refine awp_iter (fun (s : Int) => [(0, .row 0 data12.length), (1, .dat (vint n2)), (2, .dat (vfn fv2 us2)), (6, .dat (vint s))]) (fun (s : Int) => [(0, .rowA (A.vl 0) 9 1 (List.map C_string r13))]) 20 H ⟨rfl, rfl, rfl, rfl, trivial⟩ ⟨rfl, trivial⟩ (fun _ => rfl) ?_
  rintro blockSize16 q17 H hq17
  replace H : slices_stableCmpFunc_string__L3 n2 r13 blockSize16 = some q17 := H
  unfold slices_stableCmpFunc_string__L3 at H
  refine awp_seq ?_
  refine awp_seq ?_
  refine awp_plain hN rfl ?_
  refine qd rfl ?_
  refine qd rfl ?_
  refine seq_run0 (stp_lss rfl rfl) ?_
  refine awp_cond _ rfl (fun h18 => ?_) (fun h18 => ?_)
  ·replace H := ift h18 H
   refine awp_skip ?_
   refine awp_block ?_
   refine awp_seq ?_
   refine awp_plain hN rfl ?_
   refine qd rfl ?_
   refine seq_run0 (stp_wrap _ rfl rfl (.inr (.inr ⟨rfl, rfl⟩))) ?_
   refine qe rfl ?_
   refine qe rfl ?_
   refine awp_joinE (ι := Int) (fun i => [(0, .row 0 data12.length), (1, .dat (vint n2)), (2, .dat (vfn fv2 us2)), (6, .dat (vint blockSize16)), (7, .dat (vint i))]) (fun i => [(0, .rowA (A.vl 0) 9 1 (List.map C_string r13))]) (fun i => slices_stableCmpFunc_string__J4 n2 blockSize16 i = some q17) (fun i => rfl) ?_ ?_
   ·skip
    refine awp_block ?_
    refine awp_iter (fun (s : Int × Int) => [(0, .row 0 data12.length), (1, .dat (vint n2)), (2, .dat (vfn fv2 us2)), (6, .dat (vint blockSize16)), (7, .dat (vint s.1)), (8, .dat (vint s.2))]) (fun (s : Int × Int) => [(0, .rowA (A.vl 0) 9 1 (List.map C_string r13))]) (0, wr (2 * blockSize16)) H ⟨rfl, rfl, rfl, rfl, rfl, rfl, trivial⟩ ⟨rfl, trivial⟩ (fun _ => rfl) ?_
    rintro ⟨a19, b20⟩ q21 H hq21
    replace H : slices_stableCmpFunc_string__L5 n2 blockSize16 a19 b20 = some q21 := H
    unfold slices_stableCmpFunc_string__L5 at H
    refine awp_seq ?_
    refine awp_seq ?_
    refine awp_plain hN rfl ?_
    refine qd rfl ?_
    refine qd rfl ?_
    refine seq_run0 (stp_leq rfl rfl) ?_
    refine awp_cond _ rfl (fun h22 => ?_) (fun h22 => ?_)
    ·replace H := ift h22 H
     cases H
    ·replace H := iff_ h22 H
     refine awp_exit ?_
     replace H := outl H hq21
     exact ⟨a19, H, ⟨rfl, rfl, rfl, rfl, rfl, trivial⟩, ⟨rfl, trivial⟩⟩
   ·rintro a23 H
    replace H : slices_stableCmpFunc_string__J4 n2 blockSize16 a23 = some q17 := H
    unfold slices_stableCmpFunc_string__J4 at H
    refine awp_joinE (ι := Unit) (fun i => [(0, .row 0 data12.length), (1, .dat (vint n2)), (2, .dat (vfn fv2 us2)), (6, .dat (vint blockSize16))]) (fun i => [(0, .rowA (A.vl 0) 9 1 (List.map C_string r13))]) (fun i => slices_stableCmpFunc_string__J6 blockSize16 = some q17) (fun i => rfl) ?_ ?_
    ·skip
     refine awp_seq ?_
     refine awp_plain hN rfl ?_
     refine qd rfl ?_
     refine qd rfl ?_
     refine seq_run0 (stp_wrap _ rfl rfl (.inl ⟨rfl, rfl⟩)) ?_
     refine qe rfl ?_
     refine awp_seq ?_
     refine awp_plain hN rfl ?_
     refine qd rfl ?_
     refine qd rfl ?_
     refine seq_run0 (stp_lss rfl rfl) ?_
     refine awp_cond _ rfl (fun h24 => ?_) (fun h24 => ?_)
     ·replace H := ift h24 H
      cases H
     ·replace H := iff_ h24 H
      refine awp_skip ?_
      exact ⟨(), H, ⟨rfl, rfl, rfl, rfl, trivial⟩, ⟨rfl, trivial⟩⟩
    ·rintro ⟨⟩ H
     replace H : slices_stableCmpFunc_string__J6 blockSize16 = some q17 := H
     unfold slices_stableCmpFunc_string__J6 at H
     refine awp_plain hN rfl ?_
     refine qd rfl ?_
     refine seq_run0 (stp_wrap _ rfl rfl (.inr (.inr ⟨rfl, rfl⟩))) ?_
     refine qe rfl ?_
     exact ⟨_, backl H, ⟨rfl, rfl, rfl, rfl, trivial⟩, ⟨rfl, trivial⟩⟩
  ·replace H := iff_ h18 H
   refine awp_exit ?_
   replace H := retl H hq17
   have eH : r13 = r := Option.some.inj H
   subst eH
   exact ⟨trivial, [], trivial, ⟨rfl, trivial⟩, rfl, .inl ⟨[], trivial, rfl⟩⟩
theorem kt_slices_SortStableFunc_L_string_string_ (x1 : (List Bs)) (p1 : Bs → Bs → Option (Int)) (fv1 : Nat) (us1 : List V) (hp1 : ∀ a0 a1 r, p1 a0 a1 = some r → Fn Tryz.prog fv1 ([vstr a0, vstr a1] ++ us1) (resOf [vint r])) (r : ((List Bs))) (H : m_slices_SortStableFunc_L_string_string_ x1 p1 = some r) : FnG Tryz.prog 42 [.row 0 x1.length, .dat (vfn fv1 us1)] [(0, .rowA undef 9 1 (List.map C_string x1))] (.dat (resOf [])) [(0, .rowA undef 9 1 (List.map C_string r))] := by
 refine fnG_of (by kernel_rfl) Tryz.func42 rfl rfl rfl rfl fun X A hN => ?_
 unfold m_slices_SortStableFunc_L_string_string_ at H
 refine awp_plain hN rfl ?_
 refine seq_run0 (stp_move (.row _ _) rfl) ?_
 refine seq_run0 (stp_move (.row _ _) rfl) ?_
 refine seq_run1 (t_lenT tyU32 rfl rfl) rfl ?_
 refine qd rfl ?_
 obtain ⟨r2, h3, H⟩ := bnd H
 obtain ⟨h4, H⟩ := gif H
 refine seq_callG (rn [(0, 0)]) [(0, _, _, some _)] [] (kt_slices_stableCmpFunc_string_ x1 (x1.length : Int) p1 fv1 us1 hp1 r2 h3) ⟨rfl, trivial⟩ ⟨.inl (.inl rfl), .inl (.inl rfl), .inl (.inl rfl), trivial⟩ ⟨⟨⟨rfl, rfl, rfl⟩, by simp [stayP, h4]⟩, trivial⟩ rfl ?_
 have eH : r2 = r := Option.some.inj H
 subst eH
 exact ⟨trivial, [], trivial, ⟨rfl, trivial⟩, rfl, .inl ⟨[], trivial, rfl⟩⟩
theorem k_gateref2_sign (n1 : Int) (r : (Int)) (H : m_gateref2_sign n1 = some r) : Fn Tryz.prog 44 [vint n1] (resOf [vint r]) := by
 refine ⟨by kernel_rfl, pure_of (us := [vint r]) Tryz.func44 rfl rfl rfl rfl fun X hN => ?_⟩
 unfold m_gateref2_sign at H
 refine awp_seq ?_
 refine awp_plain hN rfl ?_
 refine qe rfl ?_
 refine awp_seq ?_
 refine awp_block ?_
 refine awp_seq ?_
 refine awp_plain hN rfl ?_
 refine qd rfl ?_
 refine seq_run0 (stp_lss rfl rfl) ?_
 refine qe rfl ?_
 refine awp_cond _ rfl (fun h2 => ?_) (fun h2 => ?_)
 ·replace H := ift h2 H
  refine awp_seq ?_
  refine awp_plain hN rfl ?_
  refine qe rfl ?_
  refine awp_ret ?_
  cases H
  exact ⟨trivial, .inl rfl, trivial⟩
 ·replace H := iff_ h2 H
  refine awp_seq ?_
  refine awp_plain hN rfl ?_
  refine qd rfl ?_
  refine seq_run0 (stp_gtr rfl rfl) ?_
  refine qe rfl ?_
  refine awp_cond _ rfl (fun h3 => ?_) (fun h3 => ?_)
  ·replace H := ift h3 H
   refine awp_seq ?_
   refine awp_plain hN rfl ?_
   refine qe rfl ?_
   refine awp_ret ?_
   cases H
   exact ⟨trivial, .inl rfl, trivial⟩
  ·replace H := iff_ h3 H
   refine awp_skip ?_
   refine awp_seq ?_
   refine awp_plain hN rfl ?_
   refine qe rfl ?_
   refine awp_ret ?_
   cases H
   exact ⟨trivial, .inl rfl, trivial⟩
theorem k_gateref2_OrderOf_1 (a1 : Bs) (b2 : Bs) (c3 : (Nat × (Bs → Int))) (r : (Int)) (H : m_gateref2_OrderOf_1 a1 b2 c3 = some r) : Fn Tryz.prog 43 [vstr a1, vstr b2, vcell [[vmpI Tryz.prog 9 3 c3.1 c3.2]] 0 0] (resOf [vint r]) := by
 refine ⟨by kernel_rfl, pure_of (us := [vint r]) Tryz.func43 rfl rfl rfl rfl fun X hN => ?_⟩
 unfold m_gateref2_OrderOf_1 at H
 refine awp_seq ?_
 refine awp_plain hN rfl ?_
 refine qe rfl ?_
 refine awp_seq ?_
 refine awp_plain hN rfl ?_
 refine seq_run0 (stp_loadE1 tyS73 rfl rfl rfl) ?_
 refine qd rfl ?_
 obtain ⟨h4, H⟩ := gif H
 refine seq_run0 (stp_lookV tyM73 rfl rfl h4) ?_
 refine seq_run0 (stp_loadE1 tyS73 rfl rfl rfl) ?_
 refine qd rfl ?_
 obtain ⟨h5, H⟩ := gif H
 refine seq_run0 (stp_lookV tyM73 rfl rfl h5) ?_
 refine seq_run0 (stp_wrap _ rfl rfl (.inr (.inl ⟨rfl, rfl⟩))) ?_
 obtain ⟨r6, h7, H⟩ := bnd H
 refine seq_run0 (stp_call (k_gateref2_sign (wr ((c3.2 b2) - (c3.2 a1))) r6 h7) ⟨.inl rfl, trivial⟩) ?_
 refine qe rfl ?_
 refine awp_ret ?_
 cases H
 exact ⟨trivial, .inl rfl, trivial⟩
theorem k_strings_Join (l : List Bs) (sep r : Bs) (H : m_strings_Join l sep = some r) : Fn Tryz.prog 67 [vlst (List.map C_string l), vstr sep] (resOf [vstr r]) := by
 obtain ⟨h1, h2, rfl⟩ := join_some H
 refine fn_of_callsG (by kernel_rfl) fun M w vs hM h => ?_
 obtain ⟨hl, hv⟩ := h
 obtain ⟨a, ha, hap⟩ := hv 0 _ rfl
 obtain ⟨s, hs, hsp⟩ := hv 1 _ rfl
 have hsp : s = .string ⟨sep.toArray⟩ := hsp
 subst hsp
 have hvs : vs.toArray = #[a, .string ⟨sep.toArray⟩] := by
  rcases vs with _ | ⟨x, _ | ⟨y, _ | ⟨z, t⟩⟩⟩
  ·cases ha
  ·cases hs
  ·cases ha; cases hs; rfl
  ·simp at hl
 rw [hvs]
 obtain ⟨A, c, q1, q2, q3⟩ := hap
 simp only [List.length_map] at q1 q2
 subst q1
 by_cases hne : l = []
 ·subst hne
  refine (Tryz.strings_Join_none A c ⟨sep.toArray⟩ w).mono ?_
  rintro e w' ⟨rfl, rfl⟩
  exact ⟨_, rfl, rfl, Kp.refl _ _⟩
 ·obtain ⟨b, off, size, rfl, hMb, arr, t, fz, q5, q6, q7⟩ := q3 (by simpa using hne)
  have hsz : size = 1 := by
   cases hq : l with
   | nil => exact absurd hq hne
   | cons x l' => have := q6 (C_string x) (by rw [hq]; simp); simpa using this.symm
  subst hsz
  have e1 : ((l.map fun x => ByteArray.mk x.toArray).map (·.data.toList)) = l := by
   rw [List.map_map]
   exact (List.map_congr_left fun x _ => rfl).trans (List.map_id l)
  have hj := Tryz.strings_Join b off c (l.map fun x => ByteArray.mk x.toArray) ⟨sep.toArray⟩ w (fun j x hx => by
   rw [List.getElem?_map] at hx
   cases hq : l[j]? with
   | none => rw [hq] at hx; cases hx
   | some y =>
    rw [hq] at hx
    cases hx
    obtain ⟨v, r1, r2, _⟩ := q7 j 0 (C_string y) (vstr y) (by rw [List.getElem?_map, hq]; rfl) rfl
    have r2 : v = .string ⟨y.toArray⟩ := r2
    rw [cell_of_row w b _ _ _ _ q5]
    simp only [Nat.mul_one, Nat.add_zero] at r1
    rw [r1, r2]) (heap_lt q5) (by simp; omega) (by simpa using q2) (by rw [e1]; simp only; omega)
  rw [List.length_map, e1] at hj
  refine hj.mono ?_
  rintro e w' ⟨rfl, hb⟩
  exact ⟨_, rfl, rfl, Kp.of_below hb⟩
theorem k_gateref2_hashed (l1 : (List Bs)) (r : (Int)) (H : m_gateref2_hashed l1 = some r) : Fn Tryz.prog 41 [vlst (List.map C_string l1)] (resOf [vval (.int .u64 r)]) := by
 refine ⟨by kernel_rfl, pure_of (us := [vval (.int .u64 r)]) Tryz.func41 rfl rfl rfl rfl fun X hN => ?_⟩
 unfold m_gateref2_hashed at H
 refine awp_seq ?_
 refine awp_plain hN rfl ?_
 refine qe rfl ?_
 refine awp_seq ?_
 refine awp_plain hN rfl ?_
 refine qe rfl ?_
 refine awp_seq ?_
 refine awp_plain hN rfl ?_
 refine qd rfl ?_
 obtain ⟨r2, h3, H⟩ := bnd H
 refine seq_run0 (stp_call (k_strings_Join l1 [0] r2 h3) ⟨.inl rfl, .inl rfl, trivial⟩) ?_
 refine qe rfl ?_
 refine awp_seq ?_
 refine awp_seq ?_
 refine awp_plain hN rfl ?_
 refine qd rfl ?_
 refine seq_run0 (stp_len_str tyU9 rfl) ?_
 refine qd rfl ?_
 refine awp_block ?_
 obtain ⟨h7, H⟩ := gif H
 refine awp_forL (fun (k5 : Nat) (s : Int) => [(3, .dat (vval (.int .u64 s))), (4, .dat (vstr r2)), (9, .dat (vint (r2.length : Int))), (10, .dat (vint (k5 : Int)))]) (fun (k5 : Nat) (s : Int) => []) 14695981039346656037 H ⟨rfl, rfl, rfl, rfl, trivial⟩ trivial (fun _ _ => rfl) ?_ ?_
 ·rintro h4 H
  replace H : gateref2_hashed_E1 h4 = some r := H
  unfold gateref2_hashed_E1 at H
  refine awp_seq ?_
  refine awp_plain hN rfl ?_
  refine seq_run0 (stp_lss rfl rfl) ?_
  refine awp_seq ?_
  refine awp_cond _ rfl (fun h => (lt_t h).elim) (fun h => ?_)
  refine awp_exit ?_
  refine awp_seq ?_
  refine awp_plain hN rfl ?_
  refine qd rfl ?_
  refine qe rfl ?_
  refine awp_ret ?_
  cases H
  exact ⟨trivial, .inl rfl, trivial⟩
 ·rintro k5 x8 h4 q6 h9 h10 H hq6
  replace H : gateref2_hashed_L1 k5 x8 h4 = some q6 := H
  unfold gateref2_hashed_L1 at H
  refine awp_seq ?_
  refine awp_plain hN rfl ?_
  refine seq_run0 (stp_lss rfl rfl) ?_
  refine awp_seq ?_
  refine awp_cond _ rfl (fun h => ?_) (fun h => (lt_f h9 h).elim)
  refine awp_skip ?_
  refine awp_seq ?_
  refine awp_block ?_
  refine awp_seq ?_
  refine awp_plain hN rfl ?_
  refine qd rfl ?_
  refine qe rfl ?_
  refine awp_plain hN rfl ?_
  refine qd rfl ?_
  refine qd rfl ?_
  refine qd rfl ?_
  refine seq_run0 (t_byte tyU9 rfl rfl h10) ?_
  refine seq_run0 (stp_conv tyU5 tyU74 rfl) ?_
  refine seq_run0 (stp_dat (stp_xor rfl rfl) rfl) ?_
  refine seq_run0 (stp_wrap _ rfl rfl (.inr (.inr ⟨rfl, rfl⟩))) ?_
  refine qe rfl ?_
  refine awp_plain hN rfl ?_
  refine seq_run0 (stp_add rfl rfl (by omega)) ?_
  refine qd rfl ?_
  exact ⟨_, backl H, ⟨rfl, rfl, rfl, rfl, trivial⟩, trivial⟩
theorem k_gateref2_OrderOf (l1 : (List S_api_Instance)) (key2 : Bs) (r : ((List Bs))) (H : m_gateref2_OrderOf l1 key2 = some r) : Fn Tryz.prog 19 [vlst (List.map C_api_Instance l1), vstr key2] (resOf [vlst (List.map C_string r)]) := by
 refine ⟨by kernel_rfl, pure_of (us := [vlst (List.map C_string r)]) Tryz.func19 rfl rfl rfl rfl fun X hN => ?_⟩
 unfold m_gateref2_OrderOf at H
 refine awp_seq ?_
 refine awp_plain hN rfl ?_
 refine qe rfl ?_
 refine awp_seq ?_
 refine awp_plain hN rfl ?_
 refine seq_run2 (stp_mkI 1 tyM73) rfl ?_
 refine seq_run2 (stp_alloc 2 tyZ73 rfl) rfl ?_
 refine seq_run2 (stp_storeM tyS73 rfl rfl rfl) rfl ?_
 refine awp_seq ?_
 refine awp_plain hN rfl ?_
 refine qe rfl ?_
 refine awp_seq ?_
 refine awp_seq ?_
 refine awp_plain hN rfl ?_
 refine qd rfl ?_
 refine seq_run0 (t_len tyU26 rfl) ?_
 refine qd rfl ?_
 refine awp_block ?_
 refine awp_nilrow 6 3 9 1 rfl rfl rfl ?_
 obtain ⟨h8, H⟩ := gif H
 refine awp_forL (fun (k6 : Nat) (s : (Bs → Int) × Nat × (List Bs)) => [(1, .dat (vstr key2)), (5, .ptr 2 0), (6, .row 3 s.2.2.length), (11, .dat (vlst (List.map C_api_Instance l1))), (12, .dat (vint (l1.length : Int))), (13, .dat (vint (k6 : Int)))]) (fun (k6 : Nat) (s : (Bs → Int) × Nat × (List Bs)) => [(1, .opq none (mapIO Tryz.prog 9 3 s.2.1 s.1)), (2, .box none 73 [.mp 1]), (3, .row 9 1 (List.map C_string s.2.2))]) ((fun _ => 0), 0, []) H ⟨rfl, rfl, rfl, rfl, rfl, rfl, trivial⟩ ⟨rfl, rfl, rfl, trivial⟩ (fun _ _ => rfl) ?_ ?_
 ·rintro ⟨m3, m4, l5⟩ H
  replace H : gateref2_OrderOf_E1 m3 m4 l5 = some r := H
  unfold gateref2_OrderOf_E1 at H
  refine awp_seq ?_
  refine awp_plain hN rfl ?_
  refine seq_run0 (stp_lss rfl rfl) ?_
  refine awp_seq ?_
  refine awp_cond _ rfl (fun h => (lt_t h).elim) (fun h => ?_)
  refine awp_exit ?_
  refine awp_seq ?_
  refine awp_frzM 2 0 1 rfl rfl rfl ?_
  refine awp_frzB 2 [vmpI Tryz.prog 9 3 (m4, m3).1 (m4, m3).2] rfl rfl ?_
  refine awp_plain hN rfl ?_
  refine seq_run0 (stp_move (.row _ _) rfl) ?_
  refine seq_run0 (stp_mkfn (us := [_]) ⟨rfl, trivial⟩) ?_
  obtain ⟨r10, h11, H⟩ := bnd H
  obtain ⟨h12, H⟩ := gif H
  refine seq_callG (rn [(0, 3)]) [(0, _, _, some _)] [] (kt_slices_SortStableFunc_L_string_string_ l5 (fun (a0 : Bs) (a1 : Bs) => m_gateref2_OrderOf_1 a0 a1 (m4, m3)) 43 [vcell [[vmpI Tryz.prog 9 3 (m4, m3).1 (m4, m3).2]] 0 0] (fun a0 a1 r h => k_gateref2_OrderOf_1 a0 a1 (m4, m3) r h) r10 h11) ⟨rfl, trivial⟩ ⟨.inl (.inl rfl), .inl (.inl rfl), trivial⟩ ⟨⟨⟨rfl, rfl, rfl⟩, by simp [stayP, h12]⟩, trivial⟩ rfl ?_
  refine awp_seq ?_
  refine awp_plain hN rfl ?_
  refine seq_run0 (stp_move (.row _ _) rfl) ?_
  refine seq_run0 (stp_assign (.row _ _) rfl) ?_
  refine awp_ret ?_
  cases H
  exact ⟨trivial, t_slotv rfl (h12).symm, trivial⟩
 ·rintro k6 x9 ⟨m3, m4, l5⟩ q7 h13 h14 H hq7
  replace H : gateref2_OrderOf_L1 key2 k6 x9 m3 m4 l5 = some q7 := H
  unfold gateref2_OrderOf_L1 at H
  refine awp_seq ?_
  refine awp_plain hN rfl ?_
  refine seq_run0 (stp_lss rfl rfl) ?_
  refine awp_seq ?_
  refine awp_cond _ rfl (fun h => ?_) (fun h => (lt_f h13 h).elim)
  refine awp_skip ?_
  refine awp_seq ?_
  refine awp_block ?_
  refine awp_seq ?_
  refine awp_plain hN rfl ?_
  refine seq_run0 (t_idx tyE26 (fun _ => rfl) rfl rfl h14) ?_
  refine seq_run0 (stp_loadEA tyS55 rfl (map_at h14) rfl) ?_
  refine seq_run2 (stp_alloc 4 tyZ55 rfl) rfl ?_
  refine seq_run2 (stp_storeW tyS55 rfl rfl rfl rfl) rfl ?_
  refine awp_seq ?_
  refine awp_plain hN rfl ?_
  refine qd rfl ?_
  refine seq_run0 (stp_fldP tyF55_0 rfl) ?_
  refine seq_run1 (stp_load1 tyS9 rfl rfl) rfl ?_
  refine seq_run0 (stp_dat (u' := vlst (List.map C_string [key2, x9.Key])) (stp_lit [[_], [_]] tyL32 ⟨rfl, .inl ⟨_, rfl, rfl, rfl⟩, rfl, rfl, .inl ⟨_, rfl, rfl, rfl⟩, rfl, trivial⟩ rfl rfl) rfl) ?_
  obtain ⟨r15, h16, H⟩ := bnd H
  refine seq_run0 (stp_call (k_gateref2_hashed [key2, x9.Key] r15 h16) ⟨.inl rfl, trivial⟩) ?_
  refine qe rfl ?_
  refine awp_seq ?_
  refine awp_plain hN rfl ?_
  refine qd rfl ?_
  refine qd rfl ?_
  refine seq_run0 (stp_dat (stp_shr rfl rfl (by decide)) rfl) ?_
  refine seq_run0 (stp_dat (stp_xor rfl rfl) rfl) ?_
  refine qe rfl ?_
  refine awp_seq ?_
  refine awp_plain hN rfl ?_
  refine seq_run1 (stp_load1 tyS73 rfl rfl) rfl ?_
  refine seq_run0 (stp_fldP tyF55_0 rfl) ?_
  refine seq_run1 (stp_load1 tyS9 rfl rfl) rfl ?_
  refine qd rfl ?_
  refine seq_run0 (stp_remK rfl rfl (by decide)) ?_
  refine seq_run0 (stp_conv tyU74 tyU3 rfl) ?_
  refine seq_run0 (stp_fldP tyF55_1 rfl) ?_
  refine seq_run1 (stp_load1 tyS3 rfl rfl) rfl ?_
  refine seq_run0 (stp_wrap _ rfl rfl (.inr (.inr ⟨rfl, rfl⟩))) ?_
  obtain ⟨h17, H⟩ := gif H
  refine seq_run2 (stp_putI tyM73 rfl rfl rfl h17.1 h17.2.1 h17.2.2) rfl ?_
  refine awp_plain hN rfl ?_
  refine seq_run0 (stp_move (.row _ _) rfl) ?_
  refine seq_run0 (stp_fldP tyF55_0 rfl) ?_
  refine seq_run1 (stp_load1 tyS9 rfl rfl) rfl ?_
  refine seq_run0 (stp_dat (u' := vlst (List.map C_string [x9.Key])) (stp_lit [[_]] tyL32 ⟨rfl, .inl ⟨_, rfl, rfl, rfl⟩, rfl, trivial⟩ rfl rfl) rfl) ?_
  obtain ⟨h18, H⟩ := gif H
  refine seq_run2 (t_app tyL32 (fun _ => rfl) rfl rfl rfl ⟨by simp, by first | (simp; done) | simpa using h18⟩ rfl) rfl ?_
  refine seq_run0 (stp_assign (.row _ _) rfl) ?_
  refine awp_plain hN rfl ?_
  refine seq_run0 (stp_add rfl rfl (by omega)) ?_
  refine qd rfl ?_
  exact ⟨_, backl H, ⟨rfl, rfl, rfl, rfl, rfl, rfl, trivial⟩, ⟨rfl, rfl, rfl, trivial⟩⟩
theorem k_gateref2_loadOf (loads1 : (List S_api_Load)) (key2 : Bs) (r : (Int)) (H : m_gateref2_loadOf loads1 key2 = some r) : Fn Tryz.prog 45 [vlst (List.map C_api_Load loads1), vstr key2] (resOf [vint r]) := by
 refine ⟨by kernel_rfl, pure_of (us := [vint r]) Tryz.func45 rfl rfl rfl rfl fun X hN => ?_⟩
 unfold m_gateref2_loadOf at H
 refine awp_seq ?_
 refine awp_plain hN rfl ?_
 refine qe rfl ?_
 refine awp_seq ?_
 refine awp_seq ?_
 refine awp_plain hN rfl ?_
 refine qd rfl ?_
 refine seq_run0 (t_len tyU30 rfl) ?_
 refine qd rfl ?_
 refine awp_block ?_
 obtain ⟨h5, H⟩ := gif H
 refine awp_forL (fun (k3 : Nat) (s : Unit) => [(1, .dat (vstr key2)), (7, .dat (vlst (List.map C_api_Load loads1))), (8, .dat (vint (loads1.length : Int))), (9, .dat (vint (k3 : Int)))]) (fun (k3 : Nat) (s : Unit) => []) () H ⟨rfl, rfl, rfl, rfl, trivial⟩ trivial (fun _ _ => rfl) ?_ ?_
 ·rintro ⟨⟩ H
  replace H : gateref2_loadOf_E1 = some r := H
  unfold gateref2_loadOf_E1 at H
  refine awp_seq ?_
  refine awp_plain hN rfl ?_
  refine seq_run0 (stp_lss rfl rfl) ?_
  refine awp_seq ?_
  refine awp_cond _ rfl (fun h => (lt_t h).elim) (fun h => ?_)
  refine awp_exit ?_
  refine awp_seq ?_
  refine awp_plain hN rfl ?_
  refine qe rfl ?_
  refine awp_ret ?_
  cases H
  exact ⟨trivial, .inl rfl, trivial⟩
 ·rintro k3 x6 ⟨⟩ q4 h7 h8 H hq4
  replace H : gateref2_loadOf_L1 key2 k3 x6 = some q4 := H
  unfold gateref2_loadOf_L1 at H
  refine awp_seq ?_
  refine awp_plain hN rfl ?_
  refine seq_run0 (stp_lss rfl rfl) ?_
  refine awp_seq ?_
  refine awp_cond _ rfl (fun h => ?_) (fun h => (lt_f h7 h).elim)
  refine awp_skip ?_
  refine awp_seq ?_
  refine awp_block ?_
  refine awp_seq ?_
  refine awp_plain hN rfl ?_
  refine seq_run0 (t_idx tyE30 (fun _ => rfl) rfl rfl h8) ?_
  refine seq_run0 (stp_loadEA tyS61 rfl (map_at h8) rfl) ?_
  refine seq_run2 (stp_alloc 1 tyZ61 rfl) rfl ?_
  refine seq_run2 (stp_storeW tyS61 rfl rfl rfl rfl) rfl ?_
  refine awp_seq ?_
  refine awp_plain hN rfl ?_
  refine seq_run0 (stp_fldP tyF61_0 rfl) ?_
  refine seq_run1 (stp_load1 tyS9 rfl rfl) rfl ?_
  refine qd rfl ?_
  refine seq_run0 (stp_seql rfl rfl) ?_
  refine awp_cond _ rfl (fun h9 => ?_) (fun h9 => ?_)
  ·replace H := ift h9 H
   refine awp_seq ?_
   refine awp_plain hN rfl ?_
   refine seq_run0 (stp_fldP tyF61_1 rfl) ?_
   refine seq_run1 (stp_load1 tyS3 rfl rfl) rfl ?_
   refine qe rfl ?_
   refine awp_ret ?_
   replace H := retl H hq4
   cases H
   exact ⟨trivial, .inl rfl, trivial⟩
  ·replace H := iff_ h9 H
   refine awp_skip ?_
   refine awp_plain hN rfl ?_
   refine seq_run0 (stp_add rfl rfl (by omega)) ?_
   refine qd rfl ?_
   exact ⟨_, backl H, ⟨rfl, rfl, rfl, rfl, trivial⟩, trivial⟩
theorem k_gateref2_LeastLoad (l1 : (List S_api_Instance)) (loads2 : (List S_api_Load)) (r : (Bs)) (H : m_gateref2_LeastLoad l1 loads2 = some r) : Fn Tryz.prog 20 [vlst (List.map C_api_Instance l1), vlst (List.map C_api_Load loads2)] (resOf [vstr r]) := by
 refine ⟨by kernel_rfl, pure_of (us := [vstr r]) Tryz.func20 rfl rfl rfl rfl fun X hN => ?_⟩
 unfold m_gateref2_LeastLoad at H
 refine awp_seq ?_
 refine awp_plain hN rfl ?_
 refine qe rfl ?_
 refine awp_seq ?_
 refine awp_plain hN rfl ?_
 refine qd rfl ?_
 obtain ⟨x3, h4, H⟩ := bnd H
 refine seq_run0 (t_idx tyE26 (fun _ => rfl) rfl rfl h4) ?_
 refine seq_run0 (stp_loadEA tyS55 rfl (map_at h4) rfl) ?_
 refine seq_run2 (stp_alloc 1 tyZ55 rfl) rfl ?_
 refine seq_run2 (stp_storeW tyS55 rfl rfl rfl rfl) rfl ?_
 refine awp_seq ?_
 refine awp_seq ?_
 refine awp_plain hN rfl ?_
 refine qd rfl ?_
 refine seq_run0 (t_len tyU26 rfl) ?_
 refine qd rfl ?_
 refine awp_block ?_
 obtain ⟨h9, H⟩ := gif H
 refine awp_forL (fun (k7 : Nat) (s : Bs × Int) => [(1, .dat (vlst (List.map C_api_Load loads2))), (5, .ptr 1 0), (11, .dat (vlst (List.map C_api_Instance l1))), (12, .dat (vint (l1.length : Int))), (13, .dat (vint (k7 : Int)))]) (fun (k7 : Nat) (s : Bs × Int) => [(1, .box none 55 [.dat (vstr s.1), .dat (vint s.2)])]) (x3.Key, x3.Weight) H ⟨rfl, rfl, rfl, rfl, rfl, trivial⟩ ⟨rfl, trivial⟩ (fun _ _ => rfl) ?_ ?_
 ·rintro ⟨c5, c6⟩ H
  replace H : gateref2_LeastLoad_E1 c5 c6 = some r := H
  unfold gateref2_LeastLoad_E1 at H
  refine awp_seq ?_
  refine awp_plain hN rfl ?_
  refine seq_run0 (stp_lss rfl rfl) ?_
  refine awp_seq ?_
  refine awp_cond _ rfl (fun h => (lt_t h).elim) (fun h => ?_)
  refine awp_exit ?_
  refine awp_seq ?_
  refine awp_plain hN rfl ?_
  refine seq_run0 (stp_fldP tyF55_0 rfl) ?_
  refine seq_run1 (stp_load1 tyS9 rfl rfl) rfl ?_
  refine qe rfl ?_
  refine awp_ret ?_
  cases H
  exact ⟨trivial, .inl rfl, trivial⟩
 ·rintro k7 x10 ⟨c5, c6⟩ q8 h11 h12 H hq8
  replace H : gateref2_LeastLoad_L1 loads2 k7 x10 c5 c6 = some q8 := H
  unfold gateref2_LeastLoad_L1 at H
  refine awp_seq ?_
  refine awp_plain hN rfl ?_
  refine seq_run0 (stp_lss rfl rfl) ?_
  refine awp_seq ?_
  refine awp_cond _ rfl (fun h => ?_) (fun h => (lt_f h11 h).elim)
  refine awp_skip ?_
  refine awp_joinE (ι := Bs × Int) (fun i => [(1, .dat (vlst (List.map C_api_Load loads2))), (5, .ptr 1 0), (11, .dat (vlst (List.map C_api_Instance l1))), (12, .dat (vint (l1.length : Int))), (13, .dat (vint (k7 : Int)))]) (fun i => [(1, .box none 55 [.dat (vstr i.1), .dat (vint i.2)])]) (fun i => gateref2_LeastLoad_J2 i.1 i.2 = some q8) (fun i => rfl) ?_ ?_
  ·skip
   refine awp_block ?_
   refine awp_seq ?_
   refine awp_plain hN rfl ?_
   refine seq_run0 (t_idx tyE26 (fun _ => rfl) rfl rfl h12) ?_
   refine seq_run0 (stp_loadEA tyS55 rfl (map_at h12) rfl) ?_
   refine seq_run2 (stp_alloc 2 tyZ55 rfl) rfl ?_
   refine seq_run2 (stp_storeW tyS55 rfl rfl rfl rfl) rfl ?_
   refine awp_seq ?_
   refine awp_draw mixed hN rfl rfl ?_
   refine qd rfl ?_
   refine seq_run0 (stp_fldP tyF55_0 rfl) ?_
   refine seq_run1 (stp_load1 tyS9 rfl rfl) rfl ?_
   obtain ⟨r13, h14, H⟩ := bnd H
   refine seq_run0 (stp_call (k_gateref2_loadOf loads2 x10.Key r13 h14) ⟨.inl rfl, .inl rfl, trivial⟩) ?_
   refine seq_run0 (stp_wrap _ rfl rfl (.inl ⟨rfl, rfl⟩)) ?_
   refine seq_run0 (stp_fldP tyF55_1 rfl) ?_
   refine seq_run1 (stp_load1 tyS3 rfl rfl) rfl ?_
   refine seq_run0 (stp_wrap _ rfl rfl (.inr (.inr ⟨rfl, rfl⟩))) ?_
   refine qd rfl ?_
   refine seq_run0 (stp_fldP tyF55_0 rfl) ?_
   refine seq_run1 (stp_load1 tyS9 rfl rfl) rfl ?_
   obtain ⟨r15, h16, H⟩ := bnd H
   refine seq_run0 (stp_call (k_gateref2_loadOf loads2 c5 r15 h16) ⟨.inl rfl, .inl rfl, trivial⟩) ?_
   refine seq_run0 (stp_wrap _ rfl rfl (.inl ⟨rfl, rfl⟩)) ?_
   refine seq_run0 (stp_fldP tyF55_1 rfl) ?_
   refine seq_run1 (stp_load1 tyS3 rfl rfl) rfl ?_
   refine seq_run0 (stp_wrap _ rfl rfl (.inr (.inr ⟨rfl, rfl⟩))) ?_
   refine seq_run0 (stp_lss rfl rfl) ?_
   refine ⟨rfl, ?_⟩
   refine awp_cond _ rfl (fun h17 => ?_) (fun h17 => ?_)
   ·replace H := ift h17 H
    refine awp_plain hN rfl ?_
    refine seq_run1 (stp_loadA tyS55 rfl rfl rfl) rfl ?_
    refine seq_run2 (stp_storeW tyS55 rfl rfl rfl rfl) rfl ?_
    exact ⟨(x10.Key, x10.Weight), H, ⟨rfl, rfl, rfl, rfl, rfl, trivial⟩, ⟨rfl, trivial⟩⟩
   ·replace H := iff_ h17 H
    refine awp_skip ?_
    exact ⟨(c5, c6), H, ⟨rfl, rfl, rfl, rfl, rfl, trivial⟩, ⟨rfl, trivial⟩⟩
  ·rintro ⟨c18, c19⟩ H
   replace H : gateref2_LeastLoad_J2 c18 c19 = some q8 := H
   unfold gateref2_LeastLoad_J2 at H
   refine awp_plain hN rfl ?_
   refine seq_run0 (stp_add rfl rfl (by omega)) ?_
   refine qd rfl ?_
   exact ⟨_, backl H, ⟨rfl, rfl, rfl, rfl, rfl, trivial⟩, ⟨rfl, trivial⟩⟩
theorem k_gateref2_BoundedOf (l1 : (List S_api_Instance)) (loads2 : (List S_api_Load)) (key3 : Bs) (factor4 : Int) (r : (Bs)) (H : m_gateref2_BoundedOf l1 loads2 key3 factor4 = some r) : Fn Tryz.prog 21 [vlst (List.map C_api_Instance l1), vlst (List.map C_api_Load loads2), vstr key3, vint factor4] (resOf [vstr r]) := by
 refine ⟨by kernel_rfl, pure_of (us := [vstr r]) Tryz.func21 rfl rfl rfl rfl fun X hN => ?_⟩
 unfold m_gateref2_BoundedOf at H
 refine awp_seq ?_
 refine awp_plain hN rfl ?_
 refine qe rfl ?_
 refine awp_seq ?_
 refine awp_plain hN rfl ?_
 refine qe rfl ?_
 refine qe rfl ?_
 refine awp_seq ?_
 refine awp_seq ?_
 refine awp_plain hN rfl ?_
 refine qd rfl ?_
 refine seq_run0 (t_len tyU26 rfl) ?_
 refine qd rfl ?_
 refine awp_block ?_
 obtain ⟨h9, H⟩ := gif H
 refine awp_forL (fun (k7 : Nat) (s : Int × Int) => [(0, .dat (vlst (List.map C_api_Instance l1))), (1, .dat (vlst (List.map C_api_Load loads2))), (2, .dat (vstr key3)), (3, .dat (vint factor4)), (9, .dat (vint s.1)), (10, .dat (vint s.2)), (15, .dat (vlst (List.map C_api_Instance l1))), (16, .dat (vint (l1.length : Int))), (17, .dat (vint (k7 : Int)))]) (fun (k7 : Nat) (s : Int × Int) => []) (0, 1) H ⟨rfl, rfl, rfl, rfl, rfl, rfl, rfl, rfl, rfl, trivial⟩ trivial (fun _ _ => rfl) ?_ ?_
 ·rintro ⟨weights5, all6⟩ H
  replace H : gateref2_BoundedOf_E1 l1 loads2 key3 factor4 weights5 all6 = some r := H
  unfold gateref2_BoundedOf_E1 at H
  refine awp_seq ?_
  refine awp_plain hN rfl ?_
  refine seq_run0 (stp_lss rfl rfl) ?_
  refine awp_seq ?_
  refine awp_cond _ rfl (fun h => (lt_t h).elim) (fun h => ?_)
  refine awp_exit ?_
  refine awp_seq ?_
  refine awp_seq ?_
  refine awp_plain hN rfl ?_
  refine qd rfl ?_
  refine qd rfl ?_
  obtain ⟨r11, h12, H⟩ := bnd H
  refine seq_run0 (stp_call (k_gateref2_OrderOf l1 key3 r11 h12) ⟨.inl rfl, .inl rfl, trivial⟩) ?_
  refine seq_run0 (t_len tyU32 rfl) ?_
  refine qd rfl ?_
  refine awp_block ?_
  obtain ⟨h15, H⟩ := gif H
  refine awp_forL (fun (k13 : Nat) (s : Unit) => [(0, .dat (vlst (List.map C_api_Instance l1))), (1, .dat (vlst (List.map C_api_Load loads2))), (3, .dat (vint factor4)), (9, .dat (vint weights5)), (10, .dat (vint all6)), (34, .dat (vlst (List.map C_string r11))), (35, .dat (vint (r11.length : Int))), (36, .dat (vint (k13 : Int)))]) (fun (k13 : Nat) (s : Unit) => []) () H ⟨rfl, rfl, rfl, rfl, rfl, rfl, rfl, rfl, trivial⟩ trivial (fun _ _ => rfl) ?_ ?_
  ·rintro ⟨⟩ H
   replace H : gateref2_BoundedOf_E2 l1 loads2 = some r := H
   unfold gateref2_BoundedOf_E2 at H
   refine awp_seq ?_
   refine awp_plain hN rfl ?_
   refine seq_run0 (stp_lss rfl rfl) ?_
   refine awp_seq ?_
   refine awp_cond _ rfl (fun h => (lt_t h).elim) (fun h => ?_)
   refine awp_exit ?_
   refine awp_seq ?_
   refine awp_plain hN rfl ?_
   refine qd rfl ?_
   refine qd rfl ?_
   obtain ⟨r17, h18, H⟩ := bnd H
   refine seq_run0 (stp_call (k_gateref2_LeastLoad l1 loads2 r17 h18) ⟨.inl rfl, .inl rfl, trivial⟩) ?_
   refine qe rfl ?_
   refine awp_ret ?_
   cases H
   exact ⟨trivial, .inl rfl, trivial⟩
  ·rintro k13 x16 ⟨⟩ q14 h19 h20 H hq14
   replace H : gateref2_BoundedOf_L2 l1 loads2 factor4 weights5 all6 k13 x16 = some q14 := H
   unfold gateref2_BoundedOf_L2 at H
   refine awp_seq ?_
   refine awp_plain hN rfl ?_
   refine seq_run0 (stp_lss rfl rfl) ?_
   refine awp_seq ?_
   refine awp_cond _ rfl (fun h => ?_) (fun h => (lt_f h19 h).elim)
   refine awp_skip ?_
   refine awp_seq ?_
   refine awp_block ?_
   refine awp_seq ?_
   refine awp_plain hN rfl ?_
   refine seq_run0 (t_idx tyE32 (fun _ => rfl) rfl rfl h20) ?_
   refine seq_run0 (stp_loadE1 tyS9 rfl (map_at h20) rfl) ?_
   refine qe rfl ?_
   refine awp_seq ?_
   refine awp_plain hN rfl ?_
   refine qd rfl ?_
   refine qd rfl ?_
   obtain ⟨r21, h22, H⟩ := bnd H
   refine seq_run0 (stp_call (k_gateref2_loadOf loads2 x16 r21 h22) ⟨.inl rfl, .inl rfl, trivial⟩) ?_
   refine seq_run0 (stp_wrap _ rfl rfl (.inl ⟨rfl, rfl⟩)) ?_
   refine seq_run0 (stp_wrap _ rfl rfl (.inr (.inr ⟨rfl, rfl⟩))) ?_
   refine qd rfl ?_
   refine seq_run0 (stp_wrap _ rfl rfl (.inr (.inr ⟨rfl, rfl⟩))) ?_
   refine qd rfl ?_
   refine qd rfl ?_
   refine qd rfl ?_
   refine qd rfl ?_
   obtain ⟨r23, h24, H⟩ := bnd H
   refine seq_run0 (stp_call (k_gateref2_InstanceAt l1 x16 r23 h24) ⟨.inl rfl, .inl rfl, trivial⟩) ?_
   obtain ⟨x25, h26, H⟩ := bnd H
   refine seq_run0 (t_idxI tyE26 (fun _ => rfl) rfl rfl h26) ?_
   refine seq_run0 (stp_fldE tyF55_1 rfl) ?_
   refine seq_run0 (stp_loadE1 tyS3 rfl (map_at (at_some h26).2) rfl) ?_
   refine seq_run0 (stp_wrap _ rfl rfl (.inr (.inr ⟨rfl, rfl⟩))) ?_
   refine qd rfl ?_
   refine seq_run0 (stp_wrap _ rfl rfl (.inr (.inr ⟨rfl, rfl⟩))) ?_
   refine seq_run0 (stp_leq rfl rfl) ?_
   refine awp_cond _ rfl (fun h27 => ?_) (fun h27 => ?_)
   ·replace H := ift h27 H
    refine awp_seq ?_
    refine awp_plain hN rfl ?_
    refine qd rfl ?_
    refine qe rfl ?_
    refine awp_ret ?_
    replace H := retl H hq14
    cases H
    exact ⟨trivial, .inl rfl, trivial⟩
   ·replace H := iff_ h27 H
    refine awp_skip ?_
    refine awp_plain hN rfl ?_
    refine seq_run0 (stp_add rfl rfl (by omega)) ?_
    refine qd rfl ?_
    exact ⟨_, backl H, ⟨rfl, rfl, rfl, rfl, rfl, rfl, rfl, rfl, trivial⟩, trivial⟩
 ·rintro k7 x10 ⟨weights5, all6⟩ q8 h28 h29 H hq8
  replace H : gateref2_BoundedOf_L1 loads2 k7 x10 weights5 all6 = some q8 := H
  unfold gateref2_BoundedOf_L1 at H
  refine awp_seq ?_
  refine awp_plain hN rfl ?_
  refine seq_run0 (stp_lss rfl rfl) ?_
  refine awp_seq ?_
  refine awp_cond _ rfl (fun h => ?_) (fun h => (lt_f h28 h).elim)
  refine awp_skip ?_
  refine awp_seq ?_
  refine awp_block ?_
  refine awp_seq ?_
  refine awp_plain hN rfl ?_
  refine seq_run0 (t_idx tyE26 (fun _ => rfl) rfl rfl h29) ?_
  refine seq_run0 (stp_loadEA tyS55 rfl (map_at h29) rfl) ?_
  refine seq_run2 (stp_alloc 1 tyZ55 rfl) rfl ?_
  refine seq_run2 (stp_storeW tyS55 rfl rfl rfl rfl) rfl ?_
  refine awp_seq ?_
  refine awp_plain hN rfl ?_
  refine qd rfl ?_
  refine seq_run0 (stp_fldP tyF55_1 rfl) ?_
  refine seq_run1 (stp_load1 tyS3 rfl rfl) rfl ?_
  refine seq_run0 (stp_wrap _ rfl rfl (.inl ⟨rfl, rfl⟩)) ?_
  refine qe rfl ?_
  refine awp_plain hN rfl ?_
  refine qd rfl ?_
  refine qd rfl ?_
  refine seq_run0 (stp_fldP tyF55_0 rfl) ?_
  refine seq_run1 (stp_load1 tyS9 rfl rfl) rfl ?_
  obtain ⟨r30, h31, H⟩ := bnd H
  refine seq_run0 (stp_call (k_gateref2_loadOf loads2 x10.Key r30 h31) ⟨.inl rfl, .inl rfl, trivial⟩) ?_
  refine seq_run0 (stp_wrap _ rfl rfl (.inl ⟨rfl, rfl⟩)) ?_
  refine qe rfl ?_
  refine awp_plain hN rfl ?_
  refine seq_run0 (stp_add rfl rfl (by omega)) ?_
  refine qd rfl ?_
  exact ⟨_, backl H, ⟨rfl, rfl, rfl, rfl, rfl, rfl, rfl, rfl, rfl, trivial⟩, trivial⟩
theorem k_gatelaw2_balanced  (r : (Bool)) (H : m_gatelaw2_balanced  = some r) : Fn Tryz.prog 22 [] (resOf [vbool r]) := by
 refine ⟨by kernel_rfl, pure_of (us := [vbool r]) Tryz.func22 rfl rfl rfl rfl fun X hN => ?_⟩
 unfold m_gatelaw2_balanced at H
 refine awp_seq ?_
 refine awp_plain hN rfl ?_
 refine qe rfl ?_
 refine awp_seq ?_
 refine awp_plain hN rfl ?_
 refine seq_run0 (stp_dat (u' := vagg (C_api_Instance (S_api_Instance.mk [97] 1))) (stp_build [(0, [vstr [97]]), (1, [vint 1])] tyZ55 tyP55 rfl ⟨rfl, .inl ⟨_, rfl, rfl, rfl⟩, rfl, rfl, .inl ⟨_, rfl, rfl, rfl⟩, rfl, trivial⟩) rfl) ?_
 refine seq_run0 (stp_dat (u' := vagg (C_api_Instance (S_api_Instance.mk [98] 2))) (stp_build [(0, [vstr [98]]), (1, [vint 2])] tyZ55 tyP55 rfl ⟨rfl, .inl ⟨_, rfl, rfl, rfl⟩, rfl, rfl, .inl ⟨_, rfl, rfl, rfl⟩, rfl, trivial⟩) rfl) ?_
 refine seq_run0 (stp_dat (u' := vlst (List.map C_api_Instance [(S_api_Instance.mk [97] 1), (S_api_Instance.mk [98] 2)])) (stp_lit [_, _] tyL26 ⟨rfl, .inr rfl, rfl, rfl, .inr rfl, rfl, trivial⟩ rfl rfl) rfl) ?_
 obtain ⟨r1, h2, H⟩ := bnd H
 refine seq_run0 (stp_call (k_upstream_Round ([(S_api_Instance.mk [97] 1), (S_api_Instance.mk [98] 2)]) 3 r1 h2) ⟨.inl rfl, .inl rfl, trivial⟩) ?_
 refine qd rfl ?_
 refine seq_run0 (stp_ext rfl rfl) ?_
 refine seq_run0 (stp_ext rfl rfl) ?_
 refine qe rfl ?_
 refine qe rfl ?_
 refine awp_joinE (ι := Bool) (fun i => [(0, .dat (vbool i))]) (fun i => []) (fun i => gatelaw2_balanced_J1 i = some r) (fun i => rfl) ?_ ?_
 ·skip
  refine awp_plain hN rfl ?_
  refine qd rfl ?_
  refine seq_run0 (stp_eql rfl rfl) ?_
  refine qd rfl ?_
  refine seq_split (j := 2) rfl rfl (fun h3 => ?_) (fun h3 => ?_) rfl
  ·have h4 := un1 h3
   replace H := ift h4 H
   refine seq_g0 rfl rfl h3 (stp_move (.dat _) rfl) ?_
   refine seq_g0 rfl rfl h3 (stp_dat (u' := vlst (List.map C_string [[98], [97], [98]])) (stp_lit [[_], [_], [_]] tyL32 ⟨rfl, .inl ⟨_, rfl, rfl, rfl⟩, rfl, rfl, .inl ⟨_, rfl, rfl, rfl⟩, rfl, rfl, .inl ⟨_, rfl, rfl, rfl⟩, rfl, trivial⟩ rfl rfl) rfl) ?_
   obtain ⟨r5, h6, H⟩ := bnd H
   refine seq_g0 rfl rfl h3 (stp_call (k_slices_Equal_L_string_string_ r1.1 ([[98], [97], [98]]) r5 h6) ⟨.inl rfl, .inl rfl, trivial⟩) ?_
   refine seq_run0 (stp_pick_t rfl (bTT h4) rfl) ?_
   refine qe rfl ?_
   exact ⟨r5, H, ⟨rfl, trivial⟩, trivial⟩
  ·have h7 := un2 h3
   replace H := iff_ h7 H
   refine seq_skip rfl rfl h3 ?_
   refine seq_skip rfl rfl h3 ?_
   refine seq_skip rfl rfl h3 ?_
   refine seq_run0 (stp_pick_f rfl (bFF h7) rfl) ?_
   refine qe rfl ?_
   exact ⟨false, H, ⟨rfl, trivial⟩, trivial⟩
 ·rintro v8 H
  replace H : gatelaw2_balanced_J1 v8 = some r := H
  unfold gatelaw2_balanced_J1 at H
  refine awp_ret ?_
  cases H
  exact ⟨trivial, .inl rfl, trivial⟩
theorem k_gatelaw2_InstancesPicked (v1 : (List Int)) (r : (Bool)) (H : m_gatelaw2_InstancesPicked v1 = some r) : Fn Tryz.prog 3 [vlst (List.map C_int v1)] (resOf [vbool r]) := by
 refine ⟨by kernel_rfl, pure_of (us := [vbool r]) Tryz.func3 rfl rfl rfl rfl fun X hN => ?_⟩
 unfold m_gatelaw2_InstancesPicked at H
 refine awp_seq ?_
 refine awp_plain hN rfl ?_
 refine qe rfl ?_
 refine awp_seq ?_
 refine awp_plain hN rfl ?_
 refine qd rfl ?_
 refine seq_run0 (stp_dat (u' := vagg (C_gatemake_Stream (S_gatemake_Stream.mk v1 0))) (stp_build [(0, [vlst (List.map C_int v1)])] tyZ25 tyP25 rfl ⟨rfl, .inl ⟨_, rfl, rfl, rfl⟩, rfl, trivial⟩) rfl) ?_
 refine seq_run2 (stp_boxA 1 rfl) rfl ?_
 refine seq_run0 (stp_assign (.ptr _ _) rfl) ?_
 refine awp_seq ?_
 refine awp_plain hN rfl ?_
 refine seq_run0 (stp_move (.ptr _ _) rfl) ?_
 obtain ⟨r2, h3, H⟩ := bnd H
 refine seq_run2 (stp_imp (k_gatemake_Stream_Instances (S_gatemake_Stream.mk v1 0) r2 h3) rfl trivial rfl) rfl ?_
 refine seq_run0 (stp_move (.ptr _ _) rfl) ?_
 refine seq_run0 (stp_dat (u' := vlst (List.map C_int [0, 1, 7, 12, 30, (-1), 2001])) (stp_lit [[_], [_], [_], [_], [_], [_], [_]] tyL22 ⟨rfl, .inl ⟨_, rfl, rfl, rfl⟩, rfl, rfl, .inl ⟨_, rfl, rfl, rfl⟩, rfl, rfl, .inl ⟨_, rfl, rfl, rfl⟩, rfl, rfl, .inl ⟨_, rfl, rfl, rfl⟩, rfl, rfl, .inl ⟨_, rfl, rfl, rfl⟩, rfl, rfl, .inl ⟨_, rfl, rfl, rfl⟩, rfl, rfl, .inl ⟨_, rfl, rfl, rfl⟩, rfl, trivial⟩ rfl rfl) rfl) ?_
 obtain ⟨r4, h5, H⟩ := bnd H
 refine seq_run2 (stp_imp (k_gatemake_Stream_Pick r2.2 [0, 1, 7, 12, 30, (-1), 2001] r4 h5) rfl ⟨.inl rfl, trivial⟩ rfl) rfl ?_
 refine seq_run0 (stp_move (.ptr _ _) rfl) ?_
 obtain ⟨r6, h7, H⟩ := bnd H
 refine seq_run2 (stp_imp (k_gatemake_Stream_HashKey r4.2 r6 h7) rfl trivial rfl) rfl ?_
 refine seq_run0 (stp_move (.ptr _ _) rfl) ?_
 refine seq_run0 (stp_dat (u' := vlst (List.map C_int [1000, 1100, 1500, 3000, 1000000, 999, 1000001])) (stp_lit [[_], [_], [_], [_], [_], [_], [_]] tyL22 ⟨rfl, .inl ⟨_, rfl, rfl, rfl⟩, rfl, rfl, .inl ⟨_, rfl, rfl, rfl⟩, rfl, rfl, .inl ⟨_, rfl, rfl, rfl⟩, rfl, rfl, .inl ⟨_, rfl, rfl, rfl⟩, rfl, rfl, .inl ⟨_, rfl, rfl, rfl⟩, rfl, rfl, .inl ⟨_, rfl, rfl, rfl⟩, rfl, rfl, .inl ⟨_, rfl, rfl, rfl⟩, rfl, trivial⟩ rfl rfl) rfl) ?_
 obtain ⟨r8, h9, H⟩ := bnd H
 refine seq_run2 (stp_imp (k_gatemake_Stream_Pick r6.2 [1000, 1100, 1500, 3000, 1000000, 999, 1000001] r8 h9) rfl ⟨.inl rfl, trivial⟩ rfl) rfl ?_
 refine qe rfl ?_
 refine qe rfl ?_
 refine qe rfl ?_
 refine qe rfl ?_
 refine awp_seq ?_
 refine awp_plain hN rfl ?_
 refine seq_run0 (stp_move (.ptr _ _) rfl) ?_
 refine qd rfl ?_
 obtain ⟨r10, h11, H⟩ := bnd H
 refine seq_run2 (stp_imp (k_gatemake_Stream_Loads r8.2 r2.1 r10 h11) rfl ⟨.inl rfl, trivial⟩ rfl) rfl ?_
 refine qe rfl ?_
 refine awp_seq ?_
 refine awp_plain hN rfl ?_
 refine qd rfl ?_
 refine qd rfl ?_
 obtain ⟨r12, h13, H⟩ := bnd H
 refine seq_run0 (stp_call (k_upstream_Round r2.1 r4.1 r12 h13) ⟨.inl rfl, .inl rfl, trivial⟩) ?_
 refine qd rfl ?_
 refine seq_run0 (stp_ext rfl rfl) ?_
 refine seq_run0 (stp_ext rfl rfl) ?_
 refine qe rfl ?_
 refine qe rfl ?_
 refine awp_seq ?_
 refine awp_plain hN rfl ?_
 refine qd rfl ?_
 refine qd rfl ?_
 obtain ⟨r14, h15, H⟩ := bnd H
 refine seq_run0 (stp_call (k_upstream_Order r2.1 r6.1 r14 h15) ⟨.inl rfl, .inl rfl, trivial⟩) ?_
 refine qd rfl ?_
 refine seq_run0 (stp_ext rfl rfl) ?_
 refine seq_run0 (stp_ext rfl rfl) ?_
 refine qe rfl ?_
 refine qe rfl ?_
 refine awp_seq ?_
 refine awp_plain hN rfl ?_
 refine qd rfl ?_
 refine qd rfl ?_
 obtain ⟨r16, h17, H⟩ := bnd H
 refine seq_run0 (stp_call (k_upstream_Least r2.1 r10.1 r16 h17) ⟨.inl rfl, .inl rfl, trivial⟩) ?_
 refine qd rfl ?_
 refine seq_run0 (stp_ext rfl rfl) ?_
 refine seq_run0 (stp_ext rfl rfl) ?_
 refine qe rfl ?_
 refine qe rfl ?_
 refine awp_seq ?_
 refine awp_plain hN rfl ?_
 refine qd rfl ?_
 refine qd rfl ?_
 refine qd rfl ?_
 refine qd rfl ?_
 obtain ⟨r18, h19, H⟩ := bnd H
 refine seq_run0 (stp_call (k_upstream_Bounded r2.1 r10.1 r6.1 r8.1 r18 h19) ⟨.inl rfl, .inl rfl, .inl rfl, .inl rfl, trivial⟩) ?_
 refine qd rfl ?_
 refine seq_run0 (stp_ext rfl rfl) ?_
 refine seq_run0 (stp_ext rfl rfl) ?_
 refine qe rfl ?_
 refine qe rfl ?_
 refine awp_seq ?_
 refine awp_plain hN rfl ?_
 refine qd rfl ?_
 obtain ⟨r20, h21, H⟩ := bnd H
 refine seq_run0 (stp_call (k_gateref2_InstancesFault r2.1 r20 h21) ⟨.inl rfl, trivial⟩) ?_
 refine qe rfl ?_
 refine awp_seq ?_
 refine awp_plain hN rfl ?_
 refine qd rfl ?_
 refine seq_run0 (t_len tyU26 rfl) ?_
 refine seq_run0 (stp_eql rfl rfl) ?_
 obtain ⟨r22, h23, H⟩ := bnd H
 refine seq_run0 (stp_call (k_gatelaw2_when (decide ((r2.1.length : Int) = 0)) 8 r22 h23) ⟨.inl rfl, .inl rfl, trivial⟩) ?_
 refine qe rfl ?_
 refine awp_seq ?_
 refine awp_plain hN rfl ?_
 refine qd rfl ?_
 refine qd rfl ?_
 refine seq_run0 (stp_lss rfl rfl) ?_
 refine qd rfl ?_
 refine seq_aF rfl rfl (fun hc => stp_move (.dat _) rfl) ?_
 refine seq_aF rfl rfl (fun hc => stp_gtr (cnd (c := (!(decide (r4.1 < 0)))) hc) rfl) ?_
 refine seq_run0 (stp_pick_or rfl rfl (fun hb => (cnd (c := (!(decide (r4.1 < 0)))) (notI hb)))) ?_
 obtain ⟨r24, h25, H⟩ := bnd H
 refine seq_run0 (stp_call (k_gatelaw2_when ((decide (r4.1 < 0)) || (decide (2000 < r4.1))) 1 r24 h25) ⟨.inl rfl, .inl rfl, trivial⟩) ?_
 refine qd rfl ?_
 refine seq_run0 (stp_dat (u' := vlst (List.map C_api_Errno [r20, r24, r22])) (stp_lit [[_], [_], [_]] tyL71 ⟨rfl, .inl ⟨_, rfl, rfl, rfl⟩, rfl, rfl, .inl ⟨_, rfl, rfl, rfl⟩, rfl, rfl, .inl ⟨_, rfl, rfl, rfl⟩, rfl, trivial⟩ rfl rfl) rfl) ?_
 obtain ⟨r26, h27, H⟩ := bnd H
 refine seq_run0 (stp_call (k_gatelaw2_errs [r20, r24, r22] r26 h27) ⟨.inl rfl, trivial⟩) ?_
 refine qe rfl ?_
 refine awp_seq ?_
 refine awp_plain hN rfl ?_
 refine qd rfl ?_
 refine qd rfl ?_
 obtain ⟨r28, h29, H⟩ := bnd H
 refine seq_run0 (stp_call (k_gateref2_OrderKey r6.1 r28 h29) ⟨.inl rfl, trivial⟩) ?_
 refine seq_run0 (stp_dat (u' := vlst (List.map C_api_Errno [r20, r28])) (stp_lit [[_], [_]] tyL71 ⟨rfl, .inl ⟨_, rfl, rfl, rfl⟩, rfl, rfl, .inl ⟨_, rfl, rfl, rfl⟩, rfl, trivial⟩ rfl rfl) rfl) ?_
 obtain ⟨r30, h31, H⟩ := bnd H
 refine seq_run0 (stp_call (k_gatelaw2_errs [r20, r28] r30 h31) ⟨.inl rfl, trivial⟩) ?_
 refine qe rfl ?_
 refine awp_seq ?_
 refine awp_plain hN rfl ?_
 refine qd rfl ?_
 refine qd rfl ?_
 refine qe rfl ?_
 refine qe rfl ?_
 refine awp_joinE (ι := Int × Int) (fun i => [(4, .dat (vlst (List.map C_api_Instance r2.1))), (5, .dat (vint r4.1)), (6, .dat (vstr r6.1)), (7, .dat (vint r8.1)), (8, .dat (vlst (List.map C_api_Load r10.1))), (9, .dat (vlst (List.map C_string r12.1))), (10, .dat (vint r12.2)), (11, .dat (vlst (List.map C_string r14.1))), (12, .dat (vint r14.2)), (13, .dat (vstr r16.1)), (14, .dat (vint r16.2)), (15, .dat (vstr r18.1)), (16, .dat (vint r18.2)), (19, .dat (vint r26)), (20, .dat (vint r30)), (21, .dat (vint i.1)), (22, .dat (vint i.2))]) (fun i => []) (fun i => gatelaw2_InstancesPicked_J1 r2 r4 r6 r8 r10 r12 r14 r16 r18 r26 r30 i.1 i.2 = some r) (fun i => rfl) ?_ ?_
 ·skip
  refine awp_seq ?_
  refine awp_plain hN rfl ?_
  refine qd rfl ?_
  refine seq_run0 (stp_eql rfl rfl) ?_
  refine awp_cond _ rfl (fun h32 => ?_) (fun h32 => ?_)
  ·replace H := ift h32 H
   refine awp_seq ?_
   refine awp_plain hN rfl ?_
   refine qd rfl ?_
   refine qd rfl ?_
   obtain ⟨r33, h34, H⟩ := bnd H
   refine seq_run0 (stp_call (k_gateref2_LoadsFault r2.1 r10.1 r33 h34) ⟨.inl rfl, .inl rfl, trivial⟩) ?_
   refine qd rfl ?_
   refine seq_run0 (stp_dat (u' := vlst (List.map C_api_Errno [r33, r22])) (stp_lit [[_], [_]] tyL71 ⟨rfl, .inl ⟨_, rfl, rfl, rfl⟩, rfl, rfl, .inl ⟨_, rfl, rfl, rfl⟩, rfl, trivial⟩ rfl rfl) rfl) ?_
   obtain ⟨r35, h36, H⟩ := bnd H
   refine seq_run0 (stp_call (k_gatelaw2_errs [r33, r22] r35 h36) ⟨.inl rfl, trivial⟩) ?_
   refine qe rfl ?_
   refine awp_plain hN rfl ?_
   refine qd rfl ?_
   refine qd rfl ?_
   obtain ⟨r37, h38, H⟩ := bnd H
   refine seq_run0 (stp_call (k_gateref2_LoadsFault r2.1 r10.1 r37 h38) ⟨.inl rfl, .inl rfl, trivial⟩) ?_
   refine qd rfl ?_
   refine seq_run0 (stp_lss rfl rfl) ?_
   refine qd rfl ?_
   refine seq_aF rfl rfl (fun hc => stp_move (.dat _) rfl) ?_
   refine seq_aF rfl rfl (fun hc => stp_gtr (cnd (c := (!(decide (r8.1 < 1000)))) hc) rfl) ?_
   refine seq_run0 (stp_pick_or rfl rfl (fun hb => (cnd (c := (!(decide (r8.1 < 1000)))) (notI hb)))) ?_
   obtain ⟨r39, h40, H⟩ := bnd H
   refine seq_run0 (stp_call (k_gatelaw2_when ((decide (r8.1 < 1000)) || (decide (1000000 < r8.1))) 1 r39 h40) ⟨.inl rfl, .inl rfl, trivial⟩) ?_
   refine qd rfl ?_
   obtain ⟨r41, h42, H⟩ := bnd H
   refine seq_run0 (stp_call (k_gateref2_OrderKey r6.1 r41 h42) ⟨.inl rfl, trivial⟩) ?_
   refine qd rfl ?_
   refine seq_run0 (stp_dat (u' := vlst (List.map C_api_Errno [r37, r39, r41, r22])) (stp_lit [[_], [_], [_], [_]] tyL71 ⟨rfl, .inl ⟨_, rfl, rfl, rfl⟩, rfl, rfl, .inl ⟨_, rfl, rfl, rfl⟩, rfl, rfl, .inl ⟨_, rfl, rfl, rfl⟩, rfl, rfl, .inl ⟨_, rfl, rfl, rfl⟩, rfl, trivial⟩ rfl rfl) rfl) ?_
   obtain ⟨r43, h44, H⟩ := bnd H
   refine seq_run0 (stp_call (k_gatelaw2_errs [r37, r39, r41, r22] r43 h44) ⟨.inl rfl, trivial⟩) ?_
   refine qe rfl ?_
   exact ⟨(r35, r43), H, ⟨rfl, rfl, rfl, rfl, rfl, rfl, rfl, rfl, rfl, rfl, rfl, rfl, rfl, rfl, rfl, rfl, rfl, trivial⟩, trivial⟩
  ·replace H := iff_ h32 H
   refine awp_skip ?_
   exact ⟨(r20, r20), H, ⟨rfl, rfl, rfl, rfl, rfl, rfl, rfl, rfl, rfl, rfl, rfl, rfl, rfl, rfl, rfl, rfl, rfl, trivial⟩, trivial⟩
 ·rintro ⟨v45, v46⟩ H
  replace H : gatelaw2_InstancesPicked_J1 r2 r4 r6 r8 r10 r12 r14 r16 r18 r26 r30 v45 v46 = some r := H
  unfold gatelaw2_InstancesPicked_J1 at H
  refine awp_seq ?_
  refine awp_seq ?_
  refine awp_plain hN rfl ?_
  refine qd rfl ?_
  refine qd rfl ?_
  refine seq_run0 (stp_neq rfl rfl) ?_
  refine qd rfl ?_
  refine seq_aF rfl rfl (fun hc => stp_move (.dat _) rfl) ?_
  refine seq_aF rfl rfl (fun hc => stp_move (.dat _) rfl) ?_
  refine seq_aF rfl rfl (fun hc => stp_neq (cnd (c := (!(decide (r12.2 ≠ r26)))) hc) (cnd (c := (!(decide (r12.2 ≠ r26)))) hc)) ?_
  refine seq_run0 (stp_pick_or rfl rfl (fun hb => (cnd (c := (!(decide (r12.2 ≠ r26)))) (notI hb)))) ?_
  refine qd rfl ?_
  refine seq_aF rfl rfl (fun hc => stp_move (.dat _) rfl) ?_
  refine seq_aF rfl rfl (fun hc => stp_move (.dat _) rfl) ?_
  refine seq_aF rfl rfl (fun hc => stp_neq (cnd (c := (!((decide (r12.2 ≠ r26)) || (decide (r14.2 ≠ r30))))) hc) (cnd (c := (!((decide (r12.2 ≠ r26)) || (decide (r14.2 ≠ r30))))) hc)) ?_
  refine seq_run0 (stp_pick_or rfl rfl (fun hb => (cnd (c := (!((decide (r12.2 ≠ r26)) || (decide (r14.2 ≠ r30))))) (notI hb)))) ?_
  refine qd rfl ?_
  refine seq_aF rfl rfl (fun hc => stp_move (.dat _) rfl) ?_
  refine seq_aF rfl rfl (fun hc => stp_move (.dat _) rfl) ?_
  refine seq_aF rfl rfl (fun hc => stp_neq (cnd (c := (!(((decide (r12.2 ≠ r26)) || (decide (r14.2 ≠ r30))) || (decide (r16.2 ≠ v45))))) hc) (cnd (c := (!(((decide (r12.2 ≠ r26)) || (decide (r14.2 ≠ r30))) || (decide (r16.2 ≠ v45))))) hc)) ?_
  refine seq_run0 (stp_pick_or rfl rfl (fun hb => (cnd (c := (!(((decide (r12.2 ≠ r26)) || (decide (r14.2 ≠ r30))) || (decide (r16.2 ≠ v45))))) (notI hb)))) ?_
  refine awp_cond _ rfl (fun h47 => ?_) (fun h47 => ?_)
  ·replace H := ift h47 H
   refine awp_seq ?_
   refine awp_plain hN rfl ?_
   refine qe rfl ?_
   refine awp_ret ?_
   cases H
   exact ⟨trivial, .inl rfl, trivial⟩
  ·replace H := iff_ h47 H
   refine awp_skip ?_
   refine awp_seq ?_
   refine awp_joinE (ι := Bool) (fun i => [(4, .dat (vlst (List.map C_api_Instance r2.1))), (6, .dat (vstr r6.1)), (7, .dat (vint r8.1)), (8, .dat (vlst (List.map C_api_Load r10.1))), (9, .dat (vlst (List.map C_string r12.1))), (11, .dat (vlst (List.map C_string r14.1))), (13, .dat (vstr r16.1)), (15, .dat (vstr r18.1)), (19, .dat (vint r26)), (20, .dat (vint r30)), (21, .dat (vint v45)), (22, .dat (vint v46)), (153, .dat (vbool i))]) (fun i => []) (fun i => gatelaw2_InstancesPicked_J2 r2 r6 r8 r10 r12 r14 r16 r18 r26 r30 v45 v46 i = some r) (fun i => rfl) ?_ ?_
   ·skip
    refine awp_plain hN rfl ?_
    refine qd rfl ?_
    refine seq_run0 (stp_eql rfl rfl) ?_
    refine qd rfl ?_
    refine seq_split (j := 2) rfl rfl (fun h48 => ?_) (fun h48 => ?_) rfl
    ·have h49 := un1 h48
     replace H := ift h49 H
     refine seq_g0 rfl rfl h48 (stp_move (.dat _) rfl) ?_
     refine seq_g0 rfl rfl h48 (stp_move (.dat _) rfl) ?_
     refine seq_g0 rfl rfl h48 (stp_move (.dat _) rfl) ?_
     obtain ⟨r50, h51, H⟩ := bnd H
     refine seq_g0 rfl rfl h48 (stp_call (k_gateref2_RoundOf r2.1 r4.1 r50 h51) ⟨.inl rfl, .inl rfl, trivial⟩) ?_
     obtain ⟨r52, h53, H⟩ := bnd H
     refine seq_g0 rfl rfl h48 (stp_call (k_slices_Equal_L_string_string_ r12.1 r50 r52 h53) ⟨.inl rfl, .inl rfl, trivial⟩) ?_
     refine seq_g0 rfl rfl h48 (stp_not rfl) ?_
     refine seq_run0 (stp_pick_t rfl (bTT h49) rfl) ?_
     refine qd rfl ?_
     refine seq_split (j := 10) rfl rfl (fun h54 => ?_) (fun h54 => ?_) rfl
     ·have h55 := un3 h54
      replace H := iff_ h55 H
      refine seq_g0 rfl rfl h54 (stp_move (.dat _) rfl) ?_
      refine seq_g0 rfl rfl h54 (stp_eql rfl rfl) ?_
      refine seq_g0 rfl rfl h54 (stp_move (.dat _) rfl) ?_
      refine seq_split (j := 13) rfl rfl (fun h56 => ?_) (fun h56 => ?_) rfl
      ·have h57 := un1 h56
       replace H := ift h57 H
       refine seq_g0 rfl rfl h56 (stp_move (.dat _) rfl) ?_
       refine seq_g0 rfl rfl h56 (stp_move (.dat _) rfl) ?_
       refine seq_g0 rfl rfl h56 (stp_move (.dat _) rfl) ?_
       obtain ⟨r58, h59, H⟩ := bnd H
       refine seq_g0 rfl rfl h56 (stp_call (k_gateref2_OrderOf r2.1 r6.1 r58 h59) ⟨.inl rfl, .inl rfl, trivial⟩) ?_
       obtain ⟨r60, h61, H⟩ := bnd H
       refine seq_g0 rfl rfl h56 (stp_call (k_slices_Equal_L_string_string_ r14.1 r58 r60 h61) ⟨.inl rfl, .inl rfl, trivial⟩) ?_
       refine seq_g0 rfl rfl h56 (stp_not rfl) ?_
       refine seq_g0 rfl rfl h54 (stp_pick_t rfl (bTT h57) rfl) ?_
       refine seq_run0 (stp_pick_f rfl (bFF h55) rfl) ?_
       exact ⟨!r60, H, ⟨rfl, rfl, rfl, rfl, rfl, rfl, rfl, rfl, rfl, rfl, rfl, rfl, rfl, trivial⟩, trivial⟩
      ·have h62 := un2 h56
       replace H := iff_ h62 H
       refine seq_skip rfl rfl h56 ?_
       refine seq_skip rfl rfl h56 ?_
       refine seq_skip rfl rfl h56 ?_
       refine seq_skip rfl rfl h56 ?_
       refine seq_skip rfl rfl h56 ?_
       refine seq_skip rfl rfl h56 ?_
       refine seq_g0 rfl rfl h54 (stp_pick_f rfl (bFF h62) rfl) ?_
       refine seq_run0 (stp_pick_f rfl (bFF h55) rfl) ?_
       exact ⟨false, H, ⟨rfl, rfl, rfl, rfl, rfl, rfl, rfl, rfl, rfl, rfl, rfl, rfl, rfl, trivial⟩, trivial⟩
     ·have h63 := un4 h54
      replace H := ift h63 H
      refine seq_skip rfl rfl h54 ?_
      refine seq_skip rfl rfl h54 ?_
      refine seq_skip rfl rfl h54 ?_
      refine seq_skipU rfl rfl ?_
      refine seq_skipU rfl rfl ?_
      refine seq_skipU rfl rfl ?_
      refine seq_skipU rfl rfl ?_
      refine seq_skipU rfl rfl ?_
      refine seq_skipU rfl rfl ?_
      refine seq_skip rfl rfl h54 ?_
      refine seq_run0 (stp_pick_t rfl (bTT h63) rfl) ?_
      exact ⟨true, H, ⟨rfl, rfl, rfl, rfl, rfl, rfl, rfl, rfl, rfl, rfl, rfl, rfl, rfl, trivial⟩, trivial⟩
    ·have h64 := un2 h48
     replace H := iff_ h64 H
     refine seq_skip rfl rfl h48 ?_
     refine seq_skip rfl rfl h48 ?_
     refine seq_skip rfl rfl h48 ?_
     refine seq_skip rfl rfl h48 ?_
     refine seq_skip rfl rfl h48 ?_
     refine seq_skip rfl rfl h48 ?_
     refine seq_run0 (stp_pick_f rfl (bFF h64) rfl) ?_
     refine qd rfl ?_
     refine seq_g0 rfl rfl rfl (stp_move (.dat _) rfl) ?_
     refine seq_g0 rfl rfl rfl (stp_eql rfl rfl) ?_
     refine seq_g0 rfl rfl rfl (stp_move (.dat _) rfl) ?_
     refine seq_split (j := 13) rfl rfl (fun h65 => ?_) (fun h65 => ?_) rfl
     ·have h66 := un1 h65
      replace H := ift h66 H
      refine seq_g0 rfl rfl h65 (stp_move (.dat _) rfl) ?_
      refine seq_g0 rfl rfl h65 (stp_move (.dat _) rfl) ?_
      refine seq_g0 rfl rfl h65 (stp_move (.dat _) rfl) ?_
      obtain ⟨r67, h68, H⟩ := bnd H
      refine seq_g0 rfl rfl h65 (stp_call (k_gateref2_OrderOf r2.1 r6.1 r67 h68) ⟨.inl rfl, .inl rfl, trivial⟩) ?_
      obtain ⟨r69, h70, H⟩ := bnd H
      refine seq_g0 rfl rfl h65 (stp_call (k_slices_Equal_L_string_string_ r14.1 r67 r69 h70) ⟨.inl rfl, .inl rfl, trivial⟩) ?_
      refine seq_g0 rfl rfl h65 (stp_not rfl) ?_
      refine seq_g0 rfl rfl rfl (stp_pick_t rfl (bTT h66) rfl) ?_
      refine seq_run0 (stp_pick_f rfl rfl rfl) ?_
      exact ⟨!r69, H, ⟨rfl, rfl, rfl, rfl, rfl, rfl, rfl, rfl, rfl, rfl, rfl, rfl, rfl, trivial⟩, trivial⟩
     ·have h71 := un2 h65
      replace H := iff_ h71 H
      refine seq_skip rfl rfl h65 ?_
      refine seq_skip rfl rfl h65 ?_
      refine seq_skip rfl rfl h65 ?_
      refine seq_skip rfl rfl h65 ?_
      refine seq_skip rfl rfl h65 ?_
      refine seq_skip rfl rfl h65 ?_
      refine seq_g0 rfl rfl rfl (stp_pick_f rfl (bFF h71) rfl) ?_
      refine seq_run0 (stp_pick_f rfl rfl rfl) ?_
      exact ⟨false, H, ⟨rfl, rfl, rfl, rfl, rfl, rfl, rfl, rfl, rfl, rfl, rfl, rfl, rfl, trivial⟩, trivial⟩
   ·rintro v72 H
    replace H : gatelaw2_InstancesPicked_J2 r2 r6 r8 r10 r12 r14 r16 r18 r26 r30 v45 v46 v72 = some r := H
    unfold gatelaw2_InstancesPicked_J2 at H
    refine awp_cond _ rfl (fun h73 => ?_) (fun h73 => ?_)
    ·replace H := ift h73 H
     refine awp_seq ?_
     refine awp_plain hN rfl ?_
     refine qe rfl ?_
     refine awp_ret ?_
     cases H
     exact ⟨trivial, .inl rfl, trivial⟩
    ·replace H := iff_ h73 H
     refine awp_skip ?_
     refine awp_seq ?_
     refine awp_plain hN rfl ?_
     refine qe rfl ?_
     refine qe rfl ?_
     refine awp_joinE (ι := Bs) (fun i => [(4, .dat (vlst (List.map C_api_Instance r2.1))), (6, .dat (vstr r6.1)), (7, .dat (vint r8.1)), (8, .dat (vlst (List.map C_api_Load r10.1))), (9, .dat (vlst (List.map C_string r12.1))), (11, .dat (vlst (List.map C_string r14.1))), (13, .dat (vstr r16.1)), (15, .dat (vstr r18.1)), (19, .dat (vint r26)), (20, .dat (vint r30)), (22, .dat (vint v46)), (23, .dat (vstr i)), (24, .dat (vstr []))]) (fun i => []) (fun i => gatelaw2_InstancesPicked_J3 r2 r6 r8 r10 r12 r14 r16 r18 r26 r30 v46 i = some r) (fun i => rfl) ?_ ?_
     ·skip
      refine awp_seq ?_
      refine awp_plain hN rfl ?_
      refine qd rfl ?_
      refine seq_run0 (stp_eql rfl rfl) ?_
      refine awp_cond _ rfl (fun h74 => ?_) (fun h74 => ?_)
      ·replace H := ift h74 H
       refine awp_plain hN rfl ?_
       refine qd rfl ?_
       refine qd rfl ?_
       obtain ⟨r75, h76, H⟩ := bnd H
       refine seq_run0 (stp_call (k_gateref2_LeastLoad r2.1 r10.1 r75 h76) ⟨.inl rfl, .inl rfl, trivial⟩) ?_
       refine qe rfl ?_
       exact ⟨r75, H, ⟨rfl, rfl, rfl, rfl, rfl, rfl, rfl, rfl, rfl, rfl, rfl, rfl, rfl, trivial⟩, trivial⟩
      ·replace H := iff_ h74 H
       refine awp_skip ?_
       exact ⟨[], H, ⟨rfl, rfl, rfl, rfl, rfl, rfl, rfl, rfl, rfl, rfl, rfl, rfl, rfl, trivial⟩, trivial⟩
     ·rintro v77 H
      replace H : gatelaw2_InstancesPicked_J3 r2 r6 r8 r10 r12 r14 r16 r18 r26 r30 v46 v77 = some r := H
      unfold gatelaw2_InstancesPicked_J3 at H
      refine awp_joinE (ι := Bs) (fun i => [(9, .dat (vlst (List.map C_string r12.1))), (11, .dat (vlst (List.map C_string r14.1))), (13, .dat (vstr r16.1)), (15, .dat (vstr r18.1)), (19, .dat (vint r26)), (20, .dat (vint r30)), (23, .dat (vstr v77)), (24, .dat (vstr i))]) (fun i => []) (fun i => gatelaw2_InstancesPicked_J4 r12 r14 r16 r18 r26 r30 v77 i = some r) (fun i => rfl) ?_ ?_
      ·skip
       refine awp_seq ?_
       refine awp_plain hN rfl ?_
       refine qd rfl ?_
       refine seq_run0 (stp_eql rfl rfl) ?_
       refine awp_cond _ rfl (fun h78 => ?_) (fun h78 => ?_)
       ·replace H := ift h78 H
        refine awp_plain hN rfl ?_
        refine qd rfl ?_
        refine qd rfl ?_
        refine qd rfl ?_
        refine qd rfl ?_
        obtain ⟨r79, h80, H⟩ := bnd H
        refine seq_run0 (stp_call (k_gateref2_BoundedOf r2.1 r10.1 r6.1 r8.1 r79 h80) ⟨.inl rfl, .inl rfl, .inl rfl, .inl rfl, trivial⟩) ?_
        refine qe rfl ?_
        exact ⟨r79, H, ⟨rfl, rfl, rfl, rfl, rfl, rfl, rfl, rfl, trivial⟩, trivial⟩
       ·replace H := iff_ h78 H
        refine awp_skip ?_
        exact ⟨[], H, ⟨rfl, rfl, rfl, rfl, rfl, rfl, rfl, rfl, trivial⟩, trivial⟩
      ·rintro v81 H
       replace H : gatelaw2_InstancesPicked_J4 r12 r14 r16 r18 r26 r30 v77 v81 = some r := H
       unfold gatelaw2_InstancesPicked_J4 at H
       refine awp_joinE (ι := Bool) (fun i => [(2, .dat (vbool i))]) (fun i => []) (fun i => gatelaw2_InstancesPicked_J5 i = some r) (fun i => rfl) ?_ ?_
       ·skip
        refine awp_plain hN rfl ?_
        refine qd rfl ?_
        refine qd rfl ?_
        refine seq_run0 (stp_seql rfl rfl) ?_
        refine qd rfl ?_
        refine seq_split (j := 3) rfl rfl (fun h82 => ?_) (fun h82 => ?_) rfl
        ·have h83 := un1 h82
         replace H := ift h83 H
         refine seq_g0 rfl rfl h82 (stp_move (.dat _) rfl) ?_
         refine seq_g0 rfl rfl h82 (stp_move (.dat _) rfl) ?_
         refine seq_g0 rfl rfl h82 (stp_seql rfl rfl) ?_
         refine seq_run0 (stp_pick_t rfl (bTT h83) rfl) ?_
         refine qd rfl ?_
         refine seq_split (j := 8) rfl rfl (fun h84 => ?_) (fun h84 => ?_) rfl
         ·have h85 := un1 h84
          replace H := ift h85 H
          refine seq_g0 rfl rfl h84 (stp_move (.dat _) rfl) ?_
          refine seq_g0 rfl rfl h84 (stp_eql rfl rfl) ?_
          refine seq_g0 rfl rfl h84 (stp_move (.dat _) rfl) ?_
          refine seq_split (j := 11) rfl rfl (fun h86 => ?_) (fun h86 => ?_) rfl
          ·have h87 := un3 h86
           replace H := iff_ h87 H
           refine seq_g0 rfl rfl h86 (stp_move (.dat _) rfl) ?_
           refine seq_g0 rfl rfl h86 (t_len tyU32 rfl) ?_
           refine seq_g0 rfl rfl h86 (stp_eql rfl rfl) ?_
           refine seq_g0 rfl rfl h84 (stp_pick_f rfl (bFF h87) rfl) ?_
           refine seq_run0 (stp_pick_t rfl (bTT h85) rfl) ?_
           refine qd rfl ?_
           refine seq_split (j := 17) rfl rfl (fun h88 => ?_) (fun h88 => ?_) rfl
           ·have h89 := un1 h88
            replace H := ift h89 H
            refine seq_g0 rfl rfl h88 (stp_move (.dat _) rfl) ?_
            refine seq_g0 rfl rfl h88 (stp_eql rfl rfl) ?_
            refine seq_g0 rfl rfl h88 (stp_move (.dat _) rfl) ?_
            refine seq_split (j := 20) rfl rfl (fun h90 => ?_) (fun h90 => ?_) rfl
            ·have h91 := un3 h90
             replace H := iff_ h91 H
             refine seq_g0 rfl rfl h90 (stp_move (.dat _) rfl) ?_
             refine seq_g0 rfl rfl h90 (t_len tyU32 rfl) ?_
             refine seq_g0 rfl rfl h90 (stp_eql rfl rfl) ?_
             refine seq_g0 rfl rfl h88 (stp_pick_f rfl (bFF h91) rfl) ?_
             refine seq_run0 (stp_pick_t rfl (bTT h89) rfl) ?_
             refine qd rfl ?_
             refine seq_split (j := 26) rfl rfl (fun h92 => ?_) (fun h92 => ?_) rfl
             ·have h93 := un1 h92
              replace H := ift h93 H
              obtain ⟨r94, h95, H⟩ := bnd H
              refine seq_g0 rfl rfl h92 (stp_call (k_gatelaw2_balanced  r94 h95) trivial) ?_
              refine seq_run0 (stp_pick_t rfl (bTT h93) rfl) ?_
              refine qe rfl ?_
              exact ⟨r94, H, ⟨rfl, trivial⟩, trivial⟩
             ·have h96 := un2 h92
              replace H := iff_ h96 H
              refine seq_skip rfl rfl h92 ?_
              refine seq_run0 (stp_pick_f rfl (bFF h96) rfl) ?_
              refine qe rfl ?_
              exact ⟨false, H, ⟨rfl, trivial⟩, trivial⟩
            ·have h97 := un4 h90
             replace H := ift h97 H
             refine seq_skip rfl rfl h90 ?_
             refine seq_skip rfl rfl h90 ?_
             refine seq_skip rfl rfl h90 ?_
             refine seq_g0 rfl rfl h88 (stp_pick_t rfl (bTT h97) rfl) ?_
             refine seq_run0 (stp_pick_t rfl (bTT h89) rfl) ?_
             refine qd rfl ?_
             obtain ⟨r98, h99, H⟩ := bnd H
             refine seq_g0 rfl rfl rfl (stp_call (k_gatelaw2_balanced  r98 h99) trivial) ?_
             refine seq_run0 (stp_pick_t rfl rfl rfl) ?_
             refine qe rfl ?_
             exact ⟨r98, H, ⟨rfl, trivial⟩, trivial⟩
           ·have h100 := un2 h88
            replace H := iff_ h100 H
            refine seq_skip rfl rfl h88 ?_
            refine seq_skip rfl rfl h88 ?_
            refine seq_skip rfl rfl h88 ?_
            refine seq_skipU rfl rfl ?_
            refine seq_skipU rfl rfl ?_
            refine seq_skipU rfl rfl ?_
            refine seq_skip rfl rfl h88 ?_
            refine seq_run0 (stp_pick_f rfl (bFF h100) rfl) ?_
            refine qd rfl ?_
            refine seq_skip rfl rfl rfl ?_
            refine seq_run0 (stp_pick_f rfl rfl rfl) ?_
            refine qe rfl ?_
            exact ⟨false, H, ⟨rfl, trivial⟩, trivial⟩
          ·have h101 := un4 h86
           replace H := ift h101 H
           refine seq_skip rfl rfl h86 ?_
           refine seq_skip rfl rfl h86 ?_
           refine seq_skip rfl rfl h86 ?_
           refine seq_g0 rfl rfl h84 (stp_pick_t rfl (bTT h101) rfl) ?_
           refine seq_run0 (stp_pick_t rfl (bTT h85) rfl) ?_
           refine qd rfl ?_
           refine seq_g0 rfl rfl rfl (stp_move (.dat _) rfl) ?_
           refine seq_g0 rfl rfl rfl (stp_eql rfl rfl) ?_
           refine seq_g0 rfl rfl rfl (stp_move (.dat _) rfl) ?_
           refine seq_split (j := 20) rfl rfl (fun h102 => ?_) (fun h102 => ?_) rfl
           ·have h103 := un3 h102
            replace H := iff_ h103 H
            refine seq_g0 rfl rfl h102 (stp_move (.dat _) rfl) ?_
            refine seq_g0 rfl rfl h102 (t_len tyU32 rfl) ?_
            refine seq_g0 rfl rfl h102 (stp_eql rfl rfl) ?_
            refine seq_g0 rfl rfl rfl (stp_pick_f rfl (bFF h103) rfl) ?_
            refine seq_run0 (stp_pick_t rfl rfl rfl) ?_
            refine qd rfl ?_
            refine seq_split (j := 26) rfl rfl (fun h104 => ?_) (fun h104 => ?_) rfl
            ·have h105 := un1 h104
             replace H := ift h105 H
             obtain ⟨r106, h107, H⟩ := bnd H
             refine seq_g0 rfl rfl h104 (stp_call (k_gatelaw2_balanced  r106 h107) trivial) ?_
             refine seq_run0 (stp_pick_t rfl (bTT h105) rfl) ?_
             refine qe rfl ?_
             exact ⟨r106, H, ⟨rfl, trivial⟩, trivial⟩
            ·have h108 := un2 h104
             replace H := iff_ h108 H
             refine seq_skip rfl rfl h104 ?_
             refine seq_run0 (stp_pick_f rfl (bFF h108) rfl) ?_
             refine qe rfl ?_
             exact ⟨false, H, ⟨rfl, trivial⟩, trivial⟩
           ·have h109 := un4 h102
            replace H := ift h109 H
            refine seq_skip rfl rfl h102 ?_
            refine seq_skip rfl rfl h102 ?_
            refine seq_skip rfl rfl h102 ?_
            refine seq_g0 rfl rfl rfl (stp_pick_t rfl (bTT h109) rfl) ?_
            refine seq_run0 (stp_pick_t rfl rfl rfl) ?_
            refine qd rfl ?_
            obtain ⟨r110, h111, H⟩ := bnd H
            refine seq_g0 rfl rfl rfl (stp_call (k_gatelaw2_balanced  r110 h111) trivial) ?_
            refine seq_run0 (stp_pick_t rfl rfl rfl) ?_
            refine qe rfl ?_
            exact ⟨r110, H, ⟨rfl, trivial⟩, trivial⟩
         ·have h112 := un2 h84
          replace H := iff_ h112 H
          refine seq_skip rfl rfl h84 ?_
          refine seq_skip rfl rfl h84 ?_
          refine seq_skip rfl rfl h84 ?_
          refine seq_skipU rfl rfl ?_
          refine seq_skipU rfl rfl ?_
          refine seq_skipU rfl rfl ?_
          refine seq_skip rfl rfl h84 ?_
          refine seq_run0 (stp_pick_f rfl (bFF h112) rfl) ?_
          refine qd rfl ?_
          refine seq_skip rfl rfl rfl ?_
          refine seq_skip rfl rfl rfl ?_
          refine seq_skip rfl rfl rfl ?_
          refine seq_skipU rfl rfl ?_
          refine seq_skipU rfl rfl ?_
          refine seq_skipU rfl rfl ?_
          refine seq_skip rfl rfl rfl ?_
          refine seq_run0 (stp_pick_f rfl rfl rfl) ?_
          refine qd rfl ?_
          refine seq_skip rfl rfl rfl ?_
          refine seq_run0 (stp_pick_f rfl rfl rfl) ?_
          refine qe rfl ?_
          exact ⟨false, H, ⟨rfl, trivial⟩, trivial⟩
        ·have h113 := un2 h82
         replace H := iff_ h113 H
         refine seq_skip rfl rfl h82 ?_
         refine seq_skip rfl rfl h82 ?_
         refine seq_skip rfl rfl h82 ?_
         refine seq_run0 (stp_pick_f rfl (bFF h113) rfl) ?_
         refine qd rfl ?_
         refine seq_skip rfl rfl rfl ?_
         refine seq_skip rfl rfl rfl ?_
         refine seq_skip rfl rfl rfl ?_
         refine seq_skipU rfl rfl ?_
         refine seq_skipU rfl rfl ?_
         refine seq_skipU rfl rfl ?_
         refine seq_skip rfl rfl rfl ?_
         refine seq_run0 (stp_pick_f rfl rfl rfl) ?_
         refine qd rfl ?_
         refine seq_skip rfl rfl rfl ?_
         refine seq_skip rfl rfl rfl ?_
         refine seq_skip rfl rfl rfl ?_
         refine seq_skipU rfl rfl ?_
         refine seq_skipU rfl rfl ?_
         refine seq_skipU rfl rfl ?_
         refine seq_skip rfl rfl rfl ?_
         refine seq_run0 (stp_pick_f rfl rfl rfl) ?_
         refine qd rfl ?_
         refine seq_skip rfl rfl rfl ?_
         refine seq_run0 (stp_pick_f rfl rfl rfl) ?_
         refine qe rfl ?_
         exact ⟨false, H, ⟨rfl, trivial⟩, trivial⟩
       ·rintro v114 H
        replace H : gatelaw2_InstancesPicked_J5 v114 = some r := H
        unfold gatelaw2_InstancesPicked_J5 at H
        refine awp_ret ?_
        cases H
        exact ⟨trivial, .inl rfl, trivial⟩
end Go.Proofs.YtmlbmkfbleicaaaGreat
