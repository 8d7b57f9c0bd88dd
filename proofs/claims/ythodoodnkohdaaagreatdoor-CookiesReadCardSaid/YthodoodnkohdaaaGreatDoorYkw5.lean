/- Walks along the models. Printed by a program. -/
import Derived.Test.YthodoodnkohdaaaGreatDoorYkw4
namespace Go.Proofs.YthodoodnkohdaaaGreatDoor
open Go.RowKit
set_option linter.unusedVariables false
set_option maxRecDepth 20000
theorem k_strconv_ParseUint (s1 : Bs) (base2 : Int) (bitSize3 : Int) (r : (Int × Int)) (H : m_strconv_ParseUint s1 base2 bitSize3 = some r) : Fn Tryz.prog 144 [vstr s1, vint base2, vint bitSize3] (resOf [vval (.int .u64 r.1), verr r.2]) := by
  refine ⟨by kernel_rfl, pure_of (us := [vval (.int .u64 r.1), verr r.2]) Tryz.func144 rfl rfl rfl rfl fun X hN => ?_⟩
  unfold m_strconv_ParseUint at H
  refine awp_seq ?_
  refine awp_plain hN rfl ?_
  refine seq_run0 (stp_assign (.dat _) rfl) ?_
  refine seq_run0 (stp_assign (.dat _) rfl) ?_
  refine awp_seq ?_
  refine awp_plain hN rfl ?_
  refine seq_run0 (stp_move (.dat _) rfl) ?_
  refine seq_run0 (stp_move (.dat _) rfl) ?_
  refine seq_run0 (stp_move (.dat _) rfl) ?_
  obtain ⟨r4, h5, H⟩ := bnd H
  refine seq_run0 (stp_call (k_internal_strconv_ParseUint s1 base2 bitSize3 r4 h5) ⟨.inl rfl, .inl rfl, .inl rfl, trivial⟩) ?_
  refine seq_run0 (stp_move (.dat _) rfl) ?_
  refine seq_run0 (stp_ext rfl rfl) ?_
  refine seq_run0 (stp_ext rfl rfl) ?_
  refine seq_run0 (stp_assign (.dat _) rfl) ?_
  refine seq_run0 (stp_assign (.dat _) rfl) ?_
  refine awp_seq ?_
  refine awp_seq ?_
  refine awp_plain hN rfl ?_
  refine seq_run0 (stp_move (.dat _) rfl) ?_
  refine seq_run0 (stp_errneq (n := r4.2) (show Tryz.prog.underlying 81 = some (.interface (Tryz.prog.methodsAt 81)) from by kernel_rfl) rfl) ?_
  refine awp_cond _ rfl (fun h6 => ?_) (fun h6 => ?_)
  · replace H := ift h6 H
    refine awp_seq ?_
    refine awp_plain hN rfl ?_
    refine seq_run0 (stp_move (.dat _) rfl) ?_
    refine seq_run0 (stp_move (.dat _) rfl) ?_
    refine seq_run0 (stp_move (.dat _) rfl) ?_
    refine seq_run0 (stp_move (.dat _) rfl) ?_
    refine seq_run0 (stp_move (.dat _) rfl) ?_
    obtain ⟨r7, h8, H⟩ := bnd H
    refine seq_run0 (stp_call (k_strconv_toError [80, 97, 114, 115, 101, 85, 105, 110, 116] s1 base2 bitSize3 r4.2 r7 h8) ⟨.inl rfl, .inl rfl, .inl rfl, .inl rfl, .inl rfl, trivial⟩) ?_
    refine seq_run0 (stp_assign (.dat _) rfl) ?_
    refine seq_run0 (stp_assign (.dat _) rfl) ?_
    refine awp_ret ?_
    cases H
    exact ⟨trivial, .inl rfl, .inl rfl, trivial⟩
  · replace H := iff_ h6 H
    refine awp_skip ?_
    refine awp_seq ?_
    refine awp_plain hN rfl ?_
    refine seq_run0 (stp_move (.dat _) rfl) ?_
    refine seq_run0 (stp_assign (.dat _) rfl) ?_
    refine seq_run0 (stp_assign (.dat _) rfl) ?_
    refine awp_ret ?_
    cases H
    exact ⟨trivial, .inl rfl, .inl rfl, trivial⟩
theorem k_message_unit (s1 : Bs) (v2 : Int) (r : (Int)) (H : m_message_unit s1 v2 = some r) : Fn Tryz.prog 114 [vstr s1, vint v2] (resOf [vval (.int .u8 r)]) := by
  refine ⟨by kernel_rfl, pure_of (us := [vval (.int .u8 r)]) Tryz.func114 rfl rfl rfl rfl fun X hN => ?_⟩
  unfold m_message_unit at H
  refine awp_seq ?_
  refine awp_plain hN rfl ?_
  refine seq_run0 (stp_assign (.dat _) rfl) ?_
  refine awp_seq ?_
  refine awp_plain hN rfl ?_
  refine seq_run0 (stp_move (.dat _) rfl) ?_
  refine seq_run0 (stp_move (.dat _) rfl) ?_
  refine seq_run0 (stp_wrap _ rfl rfl (.inl ⟨rfl, rfl⟩)) ?_
  refine seq_run0 (stp_move (.dat _) rfl) ?_
  refine seq_run0 (stp_wrap _ rfl rfl (.inl ⟨rfl, rfl⟩)) ?_
  obtain ⟨l3, h4, H⟩ := bnd H
  refine seq_run0 (t_subS tyU9 rfl rfl rfl h4) ?_
  obtain ⟨r5, h6, H⟩ := bnd H
  refine seq_run0 (stp_call (k_strconv_ParseUint l3 16 8 r5 h6) ⟨.inl rfl, .inl rfl, .inl rfl, trivial⟩) ?_
  refine seq_run0 (stp_move (.dat _) rfl) ?_
  refine seq_run0 (stp_ext rfl rfl) ?_
  refine seq_run0 (stp_ext rfl rfl) ?_
  refine seq_run0 (stp_assign (.dat _) rfl) ?_
  refine seq_run0 (stp_assign (.dat _) rfl) ?_
  refine awp_seq ?_
  refine awp_seq ?_
  refine awp_plain hN rfl ?_
  refine seq_run0 (stp_move (.dat _) rfl) ?_
  refine seq_run0 (stp_errneq (n := r5.2) (show Tryz.prog.underlying 81 = some (.interface (Tryz.prog.methodsAt 81)) from by kernel_rfl) rfl) ?_
  refine awp_cond _ rfl (fun h7 => ?_) (fun h7 => ?_)
  · replace H := ift h7 H
    refine awp_seq ?_
    refine awp_plain hN rfl ?_
    refine seq_run0 (stp_assign (.dat _) rfl) ?_
    refine awp_ret ?_
    cases H
    exact ⟨trivial, .inl rfl, trivial⟩
  · replace H := iff_ h7 H
    refine awp_skip ?_
    refine awp_seq ?_
    refine awp_plain hN rfl ?_
    refine seq_run0 (stp_move (.dat _) rfl) ?_
    refine seq_run0 (stp_conv tyU132 tyU5 rfl) ?_
    refine seq_run0 (stp_assign (.dat _) rfl) ?_
    refine awp_ret ?_
    cases H
    exact ⟨trivial, .inl rfl, trivial⟩
theorem k_message_isFree (c1 : Int) (r : (Bool)) (H : m_message_isFree c1 = some r) : Fn Tryz.prog 115 [vval (.int .u8 c1)] (resOf [vbool r]) := by
  refine ⟨by kernel_rfl, pure_of (us := [vbool r]) Tryz.func115 rfl rfl rfl rfl fun X hN => ?_⟩
  unfold m_message_isFree at H
  refine awp_seq ?_
  refine awp_plain hN rfl ?_
  refine seq_run0 (stp_assign (.dat _) rfl) ?_
  refine awp_joinE (ι := Bool) (fun i => [(2, .dat (vbool i))]) (fun i => []) (fun i => message_isFree_J1 i = some r) (fun i => rfl) ?_ ?_
  · skip
    refine awp_plain hN rfl ?_
    refine seq_run0 (stp_move (.dat _) rfl) ?_
    obtain ⟨r2, h3, H⟩ := bnd H
    refine seq_run0 (stp_call (k_message_isLetter c1 r2 h3) ⟨.inl rfl, trivial⟩) ?_
    refine seq_run0 (stp_move (.dat _) rfl) ?_
    refine seq_split (j := 2) rfl rfl (fun h4 => ?_) (fun h4 => ?_) rfl
    · have h5 := un3 h4
      replace H := iff_ h5 H
      refine seq_g0 rfl rfl h4 (stp_move (.dat _) rfl) ?_
      obtain ⟨r6, h7, H⟩ := bnd H
      refine seq_g0 rfl rfl h4 (stp_call (k_message_isDigit c1 r6 h7) ⟨.inl rfl, trivial⟩) ?_
      refine seq_run0 (stp_pick_f rfl (bFF h5) rfl) ?_
      refine seq_run0 (stp_move (.dat _) rfl) ?_
      refine seq_split (j := 6) rfl rfl (fun h8 => ?_) (fun h8 => ?_) rfl
      · have h9 := un3 h8
        replace H := iff_ h9 H
        refine seq_g0 rfl rfl h8 (stp_move (.dat _) rfl) ?_
        obtain ⟨r10, h11, H⟩ := bnd H
        refine seq_g0 rfl rfl h8 (stp_call (k_strings_IndexByte [45, 46, 95, 126] c1 r10 h11) ⟨.inl rfl, .inl rfl, trivial⟩) ?_
        refine seq_g0 rfl rfl h8 (stp_geq rfl rfl) ?_
        refine seq_run0 (stp_pick_f rfl (bFF h9) rfl) ?_
        refine seq_run0 (stp_assign (.dat _) rfl) ?_
        exact ⟨decide (0 ≤ r10), H, ⟨rfl, trivial⟩, trivial⟩
      · have h12 := un4 h8
        replace H := ift h12 H
        refine seq_skip rfl rfl h8 ?_
        refine seq_skip rfl rfl h8 ?_
        refine seq_skip rfl rfl h8 ?_
        refine seq_run0 (stp_pick_t rfl (bTT h12) rfl) ?_
        refine seq_run0 (stp_assign (.dat _) rfl) ?_
        exact ⟨true, H, ⟨rfl, trivial⟩, trivial⟩
    · have h13 := un4 h4
      replace H := ift h13 H
      refine seq_skip rfl rfl h4 ?_
      refine seq_skip rfl rfl h4 ?_
      refine seq_run0 (stp_pick_t rfl (bTT h13) rfl) ?_
      refine seq_run0 (stp_move (.dat _) rfl) ?_
      refine seq_skip rfl rfl rfl ?_
      refine seq_skip rfl rfl rfl ?_
      refine seq_skip rfl rfl rfl ?_
      refine seq_run0 (stp_pick_t rfl rfl rfl) ?_
      refine seq_run0 (stp_assign (.dat _) rfl) ?_
      exact ⟨true, H, ⟨rfl, trivial⟩, trivial⟩
  · rintro v14 H
    replace H : message_isFree_J1 v14 = some r := H
    unfold message_isFree_J1 at H
    refine awp_ret ?_
    cases H
    exact ⟨trivial, .inl rfl, trivial⟩
theorem k_message_percent (c1 : Int) (r : (Bs)) (H : m_message_percent c1 = some r) : Fn Tryz.prog 116 [vval (.int .u8 c1)] (resOf [vstr r]) := by
  refine ⟨by kernel_rfl, pure_of (us := [vstr r]) Tryz.func116 rfl rfl rfl rfl fun X hN => ?_⟩
  unfold m_message_percent at H
  refine awp_seq ?_
  refine awp_plain hN rfl ?_
  refine seq_run0 (stp_assign (.dat _) rfl) ?_
  refine awp_seq ?_
  refine awp_draw mixed hN rfl rfl ?_
  refine seq_run0 (stp_move (.dat _) rfl) ?_
  refine seq_run0 (stp_dat (stp_shr rfl rfl (by decide)) rfl) ?_
  obtain ⟨x2, h3, H⟩ := bnd H
  refine seq_run0 (t_byteK tyU9 rfl rfl h3) ?_
  refine seq_run0 (stp_move (.dat _) rfl) ?_
  refine seq_run0 (stp_dat (stp_and rfl rfl) rfl) ?_
  obtain ⟨x4, h5, H⟩ := bnd H
  refine seq_run0 (t_byteK tyU9 rfl rfl h5) ?_
  refine seq_run0 (stp_dat (u' := vlst (List.map C_uint8 [37, (x2.toNat : Int), (x4.toNat : Int)])) (stp_lit [[_], [_], [_]] tyL76 ⟨rfl, .inl ⟨_, rfl, rfl, rfl⟩, rfl, rfl, .inl ⟨_, rfl, rfl, rfl⟩, rfl, rfl, .inl ⟨_, rfl, rfl, rfl⟩, rfl, trivial⟩ rfl rfl) rfl) ?_
  refine seq_run0 (stp_convB (C := C_uint8) tyU76 tyU5 tyU9 (fun _ => rfl) rfl) ?_
  refine seq_run0 (stp_assign (.dat _) rfl) ?_
  refine ⟨rfl, ?_⟩
  refine awp_ret ?_
  cases H
  exact ⟨trivial, .inl rfl, trivial⟩
theorem kb_strings_Builder_WriteString (l1 : (List Int)) (s2 : Bs) (r : (Int × Int × (List Int))) (H : m_strings_Builder_WriteString l1 s2 = some r) : FnG Tryz.prog 57 [.ptr 0 0, .dat (vstr s2)] [(0, .box (some 0) 78 [.nptr 0, .row 1 l1.length]), (1, .row 5 1 (List.map C_uint8 l1))] (.dat (resOf [vint r.1, verr r.2.1])) [(0, .box (some 0) 78 [.nptr 0, .row 900 r.2.2.length]), (900, .row 5 1 (List.map C_uint8 r.2.2))] := by
  refine fnG_of (by kernel_rfl) Tryz.func57 rfl rfl rfl rfl fun X A hN => ?_
  refine awp_cv ?_
  unfold m_strings_Builder_WriteString at H
  refine awp_seq ?_
  refine awp_plain hN rfl ?_
  refine seq_run0 (stp_assign (.dat _) rfl) ?_
  refine seq_run0 (stp_assign (.dat _) rfl) ?_
  refine awp_seq ?_
  refine awp_plain hN rfl ?_
  refine seq_run0 (stp_move (.ptr _ _) rfl) ?_
  refine seq_run2 (stp_cc cc_prog rfl) rfl ?_
  refine awp_seq ?_
  refine awp_plain hN rfl ?_
  refine seq_run0 (stp_move (.ptr _ _) rfl) ?_
  refine seq_run0 (stp_move (.ptr _ _) rfl) ?_
  refine seq_run0 (stp_nilP rfl) ?_
  refine seq_run0 (stp_fldP tyF78_1 rfl) ?_
  refine seq_run1 (stp_load1 tyS76 rfl rfl) rfl ?_
  refine seq_run0 (stp_move (.dat _) rfl) ?_
  obtain ⟨h3, H⟩ := gif H
  refine seq_run2 (t_appS (C := C_uint8) (fun _ => rfl) (show tyB8 Tryz.prog 76 9 5 from ⟨by kernel_rfl, by kernel_rfl, by kernel_rfl⟩) rfl rfl rfl h3) rfl ?_
  refine seq_run0 (stp_nilP rfl) ?_
  refine seq_run0 (stp_fldP tyF78_1 rfl) ?_
  refine seq_run4 (stp_storeS tyS76 rfl rfl (by rw [List.length_map]) rfl) rfl rfl ?_
  refine awp_seq ?_
  refine awp_plain hN rfl ?_
  refine seq_run0 (stp_move (.dat _) rfl) ?_
  refine seq_run0 (stp_len_str tyU9 rfl) ?_
  refine seq_run0 (stp_assign (.dat _) rfl) ?_
  refine seq_run0 (stp_assign (.dat _) rfl) ?_
  refine awp_ret ?_
  cases H
  show Cv _ _ _ _
  refine cv_ren (rn [(1, 900)]) [(4, .dat (vint (s2.length : Int))), (5, .dat (verr 0))] [(0, .box (some (A.bl 0)) 78 [.nptr 0, .row 1 ((l1 ++ numsB s2).length)]), (1, .row 5 1 (List.map C_uint8 (l1 ++ numsB s2)))] ⟨rfl, rfl, trivial⟩ ⟨rfl, rfl, trivial⟩ rfl rfl ?_
  exact ⟨trivial, [(4, .dat (vint (s2.length : Int))), (5, .dat (verr 0))], ⟨rfl, rfl, trivial⟩, ⟨rfl, rfl, trivial⟩, rfl, .inl ⟨[vint (s2.length : Int), verr 0], ⟨rfl, rfl, trivial⟩, rfl⟩⟩
theorem k_message_normalUnits (s1 : Bs) (r : (Bs × Bool)) (H : m_message_normalUnits s1 = some r) : Fn Tryz.prog 86 [vstr s1] (resOf [vstr r.1, vbool r.2]) := by
  refine ⟨by kernel_rfl, pure_of (us := [vstr r.1, vbool r.2]) Tryz.func86 rfl rfl rfl rfl fun X hN => ?_⟩
  unfold m_message_normalUnits at H
  refine awp_seq ?_
  refine awp_plain hN rfl ?_
  refine seq_run0 (stp_assign (.dat _) rfl) ?_
  refine seq_run0 (stp_assign (.dat _) rfl) ?_
  refine awp_seq ?_
  refine awp_plain hN rfl ?_
  refine seq_run2 (stp_alloc 1 tyZ78 rfl) rfl ?_
  refine awp_wkB 1 0 (.nptr 1) rfl rfl nptr_nil ?_
  refine awp_nilrowB 1 1 2 5 1 rfl rfl rfl rfl ?_
  refine awp_joinE (ι := (List Int)) (fun i => [(4, .ptr 1 0)]) (fun i => [(1, .box none 78 [.nptr 1, .row 2 i.length]), (2, .row 5 1 (List.map C_uint8 i))]) (fun i => message_normalUnits_J1 i = some r) (fun i => rfl) ?_ ?_
  · refine awp_cv ?_
    refine awp_seq ?_
    refine awp_plain hN rfl ?_
    refine seq_run0 (stp_assign (.dat _) rfl) ?_
    refine awp_block ?_
    refine awp_iter (fun (s : Int × (List Int)) => [(0, .dat (vstr s1)), (4, .ptr 1 0), (5, .dat (vint s.1))]) (fun (s : Int × (List Int)) => [(1, .box none 78 [.nptr 1, .row 2 s.2.length]), (2, .row 5 1 (List.map C_uint8 s.2))]) (0, ([] : List Int)) H ⟨rfl, rfl, rfl, trivial⟩ ⟨rfl, rfl, trivial⟩ (fun _ => rfl) ?_
    rintro ⟨i2, l3⟩ q4 H hq4
    replace H : message_normalUnits_L2 s1 i2 l3 = some q4 := H
    unfold message_normalUnits_L2 at H
    refine awp_cv ?_
    refine awp_seq ?_
    refine awp_seq ?_
    refine awp_plain hN rfl ?_
    refine seq_run0 (stp_move (.dat _) rfl) ?_
    refine seq_run0 (stp_move (.dat _) rfl) ?_
    refine seq_run0 (stp_len_str tyU9 rfl) ?_
    refine seq_run0 (stp_lss rfl rfl) ?_
    refine awp_cond _ rfl (fun h5 => ?_) (fun h5 => ?_)
    · replace H := ift h5 H
      refine awp_skip ?_
      refine awp_joinE (ι := Int × (List Int)) (fun i => [(0, .dat (vstr s1)), (4, .ptr 1 0), (5, .dat (vint i.1))]) (fun i => [(1, .box none 78 [.nptr 1, .row 7 i.2.length]), (7, .row 5 1 (List.map C_uint8 i.2))]) (fun i => message_normalUnits_J3 i.1 i.2 = some q4) (fun i => rfl) ?_ ?_
      · refine awp_cv ?_
        refine awp_block ?_
        refine awp_seq ?_
        refine awp_seq ?_
        refine awp_plain hN rfl ?_
        refine seq_run0 (stp_move (.dat _) rfl) ?_
        refine seq_run0 (stp_move (.dat _) rfl) ?_
        obtain ⟨x6, h7, H⟩ := bnd H
        refine seq_run0 (t_byteI tyU9 rfl rfl h7) ?_
        refine seq_run0 (stp_neq rfl rfl) ?_
        refine awp_cond _ rfl (fun h8 => ?_) (fun h8 => ?_)
        · replace H := ift h8 H
          refine awp_seq ?_
          refine awp_plain hN rfl ?_
          refine seq_run0 (stp_move (.dat _) rfl) ?_
          refine seq_run0 (stp_move (.dat _) rfl) ?_
          refine seq_run0 (t_byteI tyU9 rfl rfl h7) ?_
          obtain ⟨r9, h10, H⟩ := bnd H
          refine seq_callG (rn [(0, 1), (1, 2), (900, 3)]) [(0, _, _, some _), (1, _, _, none)] [(900, _)] (kb_strings_Builder_WriteByte l3 (x6.toNat : Int) r9 h10) ⟨rfl, rfl, rfl, trivial⟩ ⟨.inl (.inl rfl), .inl (.inl rfl), trivial⟩ ⟨⟨⟨rfl, rfl⟩, trivial⟩, ⟨⟨rfl, rfl, rfl⟩, trivial⟩, trivial⟩ rfl ?_
          refine awp_exit ?_
          show Cv _ _ _ _
          refine cv_ren (rn [(3, 7)]) [(0, .dat (vstr s1)), (4, .ptr 1 0), (5, .dat (vint i2))] [(1, .box none 78 [.nptr 1, .row 3 r9.2.length]), (3, .row 5 1 (List.map C_uint8 r9.2))] ⟨rfl, rfl, rfl, trivial⟩ ⟨rfl, rfl, trivial⟩ rfl rfl ?_
          exact ⟨(i2, r9.2), H, ⟨rfl, rfl, rfl, trivial⟩, ⟨rfl, rfl, trivial⟩⟩
        · replace H := iff_ h8 H
          refine awp_skip ?_
          refine awp_seq ?_
          refine awp_seq ?_
          refine awp_plain hN rfl ?_
          refine seq_run0 (stp_move (.dat _) rfl) ?_
          refine seq_run0 (stp_move (.dat _) rfl) ?_
          obtain ⟨r11, h12, H⟩ := bnd H
          refine seq_run0 (stp_call (k_message_isUnit s1 i2 r11 h12) ⟨.inl rfl, .inl rfl, trivial⟩) ?_
          refine seq_run0 (stp_not rfl) ?_
          refine awp_cond _ rfl (fun h13 => ?_) (fun h13 => ?_)
          · replace H := ift h13 H
            refine awp_seq ?_
            refine awp_plain hN rfl ?_
            refine seq_run0 (stp_assign (.dat _) rfl) ?_
            refine seq_run0 (stp_assign (.dat _) rfl) ?_
            refine awp_ret ?_
            replace H := retl H hq4
            cases H
            show Cv _ _ _ _
            refine cv_in ?_
            show Cv _ _ _ _
            refine cv_in ?_
            show Cv _ _ _ _
            refine cv_in ?_
            exact ⟨trivial, .inl rfl, .inl rfl, trivial⟩
          · replace H := iff_ h13 H
            refine awp_skip ?_
            refine awp_joinE (ι := (List Int)) (fun i => [(0, .dat (vstr s1)), (4, .ptr 1 0), (5, .dat (vint i2))]) (fun i => [(1, .box none 78 [.nptr 1, .row 6 i.length]), (6, .row 5 1 (List.map C_uint8 i))]) (fun i => message_normalUnits_J4 i2 i = some q4) (fun i => rfl) ?_ ?_
            · refine awp_cv ?_
              refine awp_seq ?_
              refine awp_plain hN rfl ?_
              refine seq_run0 (stp_move (.dat _) rfl) ?_
              refine seq_run0 (stp_move (.dat _) rfl) ?_
              obtain ⟨r14, h15, H⟩ := bnd H
              refine seq_run0 (stp_call (k_message_unit s1 i2 r14 h15) ⟨.inl rfl, .inl rfl, trivial⟩) ?_
              refine seq_run0 (stp_assign (.dat _) rfl) ?_
              refine awp_seq ?_
              refine awp_plain hN rfl ?_
              refine seq_run0 (stp_move (.dat _) rfl) ?_
              obtain ⟨r16, h17, H⟩ := bnd H
              refine seq_run0 (stp_call (k_message_isFree r14 r16 h17) ⟨.inl rfl, trivial⟩) ?_
              refine awp_cond _ rfl (fun h18 => ?_) (fun h18 => ?_)
              · replace H := ift h18 H
                refine awp_plain hN rfl ?_
                refine seq_run0 (stp_move (.dat _) rfl) ?_
                obtain ⟨r19, h20, H⟩ := bnd H
                refine seq_callG (rn [(0, 1), (1, 2), (900, 4)]) [(0, _, _, some _), (1, _, _, none)] [(900, _)] (kb_strings_Builder_WriteByte l3 r14 r19 h20) ⟨rfl, rfl, rfl, trivial⟩ ⟨.inl (.inl rfl), .inl (.inl rfl), trivial⟩ ⟨⟨⟨rfl, rfl⟩, trivial⟩, ⟨⟨rfl, rfl, rfl⟩, trivial⟩, trivial⟩ rfl ?_
                refine seq_end ?_
                show Cv _ _ _ _
                refine cv_ren (rn [(4, 6)]) [(0, .dat (vstr s1)), (4, .ptr 1 0), (5, .dat (vint i2))] [(1, .box none 78 [.nptr 1, .row 4 r19.2.length]), (4, .row 5 1 (List.map C_uint8 r19.2))] ⟨rfl, rfl, rfl, trivial⟩ ⟨rfl, rfl, trivial⟩ rfl rfl ?_
                exact ⟨r19.2, H, ⟨rfl, rfl, rfl, trivial⟩, ⟨rfl, rfl, trivial⟩⟩
              · replace H := iff_ h18 H
                refine awp_plain hN rfl ?_
                refine seq_run0 (stp_move (.dat _) rfl) ?_
                obtain ⟨r21, h22, H⟩ := bnd H
                refine seq_run0 (stp_call (k_message_percent r14 r21 h22) ⟨.inl rfl, trivial⟩) ?_
                obtain ⟨r23, h24, H⟩ := bnd H
                refine seq_callG (rn [(0, 1), (1, 2), (900, 5)]) [(0, _, _, some _), (1, _, _, none)] [(900, _)] (kb_strings_Builder_WriteString l3 r21 r23 h24) ⟨rfl, rfl, rfl, trivial⟩ ⟨.inl (.inl rfl), .inl (.inl rfl), trivial⟩ ⟨⟨⟨rfl, rfl⟩, trivial⟩, ⟨⟨rfl, rfl, rfl⟩, trivial⟩, trivial⟩ rfl ?_
                refine seq_end ?_
                show Cv _ _ _ _
                refine cv_ren (rn [(5, 6)]) [(0, .dat (vstr s1)), (4, .ptr 1 0), (5, .dat (vint i2))] [(1, .box none 78 [.nptr 1, .row 5 r23.2.2.length]), (5, .row 5 1 (List.map C_uint8 r23.2.2))] ⟨rfl, rfl, rfl, trivial⟩ ⟨rfl, rfl, trivial⟩ rfl rfl ?_
                exact ⟨r23.2.2, H, ⟨rfl, rfl, rfl, trivial⟩, ⟨rfl, rfl, trivial⟩⟩
            · rintro l25 H
              replace H : message_normalUnits_J4 i2 l25 = some q4 := H
              unfold message_normalUnits_J4 at H
              refine awp_plain hN rfl ?_
              refine seq_run0 (stp_move (.dat _) rfl) ?_
              refine seq_run0 (stp_wrap _ rfl rfl (.inl ⟨rfl, rfl⟩)) ?_
              refine seq_run0 (stp_assign (.dat _) rfl) ?_
              refine seq_end ?_
              show Cv _ _ _ _
              refine cv_ren (rn [(6, 7)]) [(0, .dat (vstr s1)), (4, .ptr 1 0), (5, .dat (vint (wr (i2 + 2))))] [(1, .box none 78 [.nptr 1, .row 6 l25.length]), (6, .row 5 1 (List.map C_uint8 l25))] ⟨rfl, rfl, rfl, trivial⟩ ⟨rfl, rfl, trivial⟩ rfl rfl ?_
              exact ⟨(wr (i2 + 2), l25), H, ⟨rfl, rfl, rfl, trivial⟩, ⟨rfl, rfl, trivial⟩⟩
      · rintro ⟨i26, l27⟩ H
        replace H : message_normalUnits_J3 i26 l27 = some q4 := H
        unfold message_normalUnits_J3 at H
        refine awp_plain hN rfl ?_
        refine seq_run0 (stp_move (.dat _) rfl) ?_
        refine seq_run0 (stp_wrap _ rfl rfl (.inl ⟨rfl, rfl⟩)) ?_
        refine seq_run0 (stp_assign (.dat _) rfl) ?_
        refine seq_end ?_
        show Cv _ _ _ _
        refine cv_ren (rn [(7, 2)]) [(0, .dat (vstr s1)), (4, .ptr 1 0), (5, .dat (vint (wr (i26 + 1))))] [(1, .box none 78 [.nptr 1, .row 7 l27.length]), (7, .row 5 1 (List.map C_uint8 l27))] ⟨rfl, rfl, rfl, trivial⟩ ⟨rfl, rfl, trivial⟩ rfl rfl ?_
        exact ⟨_, backl H, ⟨rfl, rfl, rfl, trivial⟩, ⟨rfl, rfl, trivial⟩⟩
    · replace H := iff_ h5 H
      refine awp_exit ?_
      replace H := outl H hq4
      show Cv _ _ _ _
      refine cv_in ?_
      show Cv _ _ _ _
      refine cv_in ?_
      exact ⟨l3, H, ⟨rfl, trivial⟩, ⟨rfl, rfl, trivial⟩⟩
  · rintro l28 H
    replace H : message_normalUnits_J1 l28 = some r := H
    unfold message_normalUnits_J1 at H
    refine awp_seq ?_
    refine awp_plain hN rfl ?_
    obtain ⟨h29, H⟩ := gif H
    refine seq_callG (rn [(0, 1), (1, 2)]) [(0, _, _, none), (1, _, _, none)] [] (kbs_String h29 (C := C_uint8) (fun _ => rfl)) ⟨rfl, rfl, trivial⟩ ⟨.inl (.inl rfl), trivial⟩ ⟨⟨⟨rfl, rfl⟩, trivial⟩, ⟨⟨rfl, rfl, rfl⟩, trivial⟩, trivial⟩ rfl ?_
    refine seq_run0 (stp_assign (.dat _) rfl) ?_
    refine seq_run0 (stp_assign (.dat _) rfl) ?_
    refine awp_ret ?_
    cases H
    exact ⟨trivial, .inl rfl, .inl rfl, trivial⟩
theorem k_message_NormalPath (s1 : Bs) (r : (Bs × Int)) (H : m_message_NormalPath s1 = some r) : Fn Tryz.prog 51 [vstr s1] (resOf [vstr r.1, vint r.2]) := by
  refine ⟨by kernel_rfl, pure_of (us := [vstr r.1, vint r.2]) Tryz.func51 rfl rfl rfl rfl fun X hN => ?_⟩
  unfold m_message_NormalPath at H
  refine awp_seq ?_
  refine awp_plain hN rfl ?_
  refine seq_run0 (stp_assign (.dat _) rfl) ?_
  refine seq_run0 (stp_assign (.dat _) rfl) ?_
  refine awp_seq ?_
  refine awp_seq ?_
  refine awp_plain hN rfl ?_
  refine seq_run0 (stp_move (.dat _) rfl) ?_
  obtain ⟨r2, h3, H⟩ := bnd H
  refine seq_run0 (stp_call (k_message_PathFault s1 r2 h3) ⟨.inl rfl, trivial⟩) ?_
  refine seq_run0 (stp_assign (.dat _) rfl) ?_
  refine awp_seq ?_
  refine awp_plain hN rfl ?_
  refine seq_run0 (stp_move (.dat _) rfl) ?_
  refine seq_run0 (stp_neq rfl rfl) ?_
  refine awp_cond _ rfl (fun h4 => ?_) (fun h4 => ?_)
  · replace H := ift h4 H
    refine awp_seq ?_
    refine awp_plain hN rfl ?_
    refine seq_run0 (stp_move (.dat _) rfl) ?_
    refine seq_run0 (stp_assign (.dat _) rfl) ?_
    refine seq_run0 (stp_assign (.dat _) rfl) ?_
    refine awp_ret ?_
    cases H
    exact ⟨trivial, .inl rfl, .inl rfl, trivial⟩
  · replace H := iff_ h4 H
    refine awp_skip ?_
    refine awp_seq ?_
    refine awp_plain hN rfl ?_
    refine seq_run0 (stp_move (.dat _) rfl) ?_
    obtain ⟨r5, h6, H⟩ := bnd H
    refine seq_run0 (stp_call (k_message_normalUnits s1 r5 h6) ⟨.inl rfl, trivial⟩) ?_
    refine seq_run0 (stp_move (.dat _) rfl) ?_
    refine seq_run0 (stp_ext rfl rfl) ?_
    refine seq_run0 (stp_ext rfl rfl) ?_
    refine seq_run0 (stp_assign (.dat _) rfl) ?_
    refine seq_run0 (stp_assign (.dat _) rfl) ?_
    refine awp_seq ?_
    refine awp_seq ?_
    refine awp_plain hN rfl ?_
    refine seq_run0 (stp_move (.dat _) rfl) ?_
    refine seq_run0 (stp_not rfl) ?_
    refine awp_cond _ rfl (fun h7 => ?_) (fun h7 => ?_)
    · replace H := ift h7 H
      refine awp_seq ?_
      refine awp_plain hN rfl ?_
      refine seq_run0 (stp_assign (.dat _) rfl) ?_
      refine seq_run0 (stp_assign (.dat _) rfl) ?_
      refine awp_ret ?_
      cases H
      exact ⟨trivial, .inl rfl, .inl rfl, trivial⟩
    · replace H := iff_ h7 H
      refine awp_skip ?_
      refine awp_seq ?_
      refine awp_plain hN rfl ?_
      refine seq_run0 (stp_assign (.dat _) rfl) ?_
      refine awp_seq ?_
      refine awp_plain hN rfl ?_
      refine seq_run0 (stp_move (.dat _) rfl) ?_
      obtain ⟨l8, h9, H⟩ := bnd H
      refine seq_run0 (t_subS tyU9 rfl rfl rfl h9) ?_
      obtain ⟨r10, h11, H⟩ := bnd H
      refine seq_run0 (stp_call (k_strings_Split l8 [47] r10 h11) ⟨.inl rfl, .inl rfl, trivial⟩) ?_
      refine seq_run0 (stp_assign (.dat _) rfl) ?_
      refine awp_seq ?_
      refine awp_seq ?_
      refine awp_plain hN rfl ?_
      refine seq_run0 (stp_move (.dat _) rfl) ?_
      refine seq_run0 (t_len tyU60 rfl) ?_
      refine seq_run0 (stp_move (.dat _) rfl) ?_
      refine awp_block ?_
      refine awp_nilrow 6 1 9 1 rfl rfl rfl ?_
      obtain ⟨h15, H⟩ := gif H
      refine awp_forL (fun (k13 : Nat) (s : (List Bs)) => [(6, .row 1 s.length), (7, .dat (vlst (List.map C_string r10))), (25, .dat (vlst (List.map C_string r10))), (26, .dat (vint (r10.length : Int))), (27, .dat (vint (k13 : Int)))]) (fun (k13 : Nat) (s : (List Bs)) => [(1, .row 9 1 (List.map C_string s))]) [] H ⟨congrArg (Slot.row 1) (by simp), rfl, rfl, rfl, rfl, trivial⟩ ⟨rfl, trivial⟩ (fun _ _ => rfl) ?_ ?_
      · rintro l12 H
        replace H : message_NormalPath_E1 l12 = some r := H
        unfold message_NormalPath_E1 at H
        refine awp_seq ?_
        refine awp_plain hN rfl ?_
        refine seq_run0 (stp_lss rfl rfl) ?_
        refine awp_seq ?_
        refine awp_cond _ rfl (fun h => (lt_t h).elim) (fun h => ?_)
        refine awp_exit ?_
        refine awp_seq ?_
        refine t_freeze 6 1 rfl rfl rfl ?_
        refine awp_plain hN rfl ?_
        refine seq_run0 (stp_move (.dat _) rfl) ?_
        obtain ⟨r17, h18, H⟩ := bnd H
        refine seq_run0 (stp_call (k_strings_Join l12 [47] r17 h18) ⟨.inl rfl, .inl rfl, trivial⟩) ?_
        obtain ⟨h19, H⟩ := gif H
        refine seq_run0 (stp_sadd rfl rfl (Nat.le_trans h19 (by decide))) ?_
        refine seq_run0 (stp_assign (.dat _) rfl) ?_
        refine seq_run0 (stp_assign (.dat _) rfl) ?_
        refine awp_ret ?_
        cases H
        exact ⟨trivial, .inl rfl, .inl rfl, trivial⟩
      · rintro k13 x16 l12 q14 h20 h21 H hq14
        replace H : message_NormalPath_L1 r10 k13 x16 l12 = some q14 := H
        unfold message_NormalPath_L1 at H
        refine awp_cv ?_
        refine awp_seq ?_
        refine awp_plain hN rfl ?_
        refine seq_run0 (stp_lss rfl rfl) ?_
        refine awp_seq ?_
        refine awp_cond _ rfl (fun h => ?_) (fun h => (lt_f h20 h).elim)
        refine awp_skip ?_
        refine awp_joinE (ι := (List Bs)) (fun i => [(6, .row 4 i.length), (7, .dat (vlst (List.map C_string r10))), (25, .dat (vlst (List.map C_string r10))), (26, .dat (vint (r10.length : Int))), (27, .dat (vint (k13 : Int)))]) (fun i => [(4, .row 9 1 (List.map C_string i))]) (fun i => message_NormalPath_J2 i = some q14) (fun i => rfl) ?_ ?_
        · refine awp_cv ?_
          refine awp_block ?_
          refine awp_seq ?_
          refine awp_plain hN rfl ?_
          refine seq_run0 (stp_move (.dat _) rfl) ?_
          refine seq_run0 (t_idx tyE60 (fun _ => rfl) rfl rfl h21) ?_
          refine seq_run0 (stp_loadE1 tyS9 rfl (map_at h21) rfl) ?_
          refine seq_run0 (stp_assign (.dat _) rfl) ?_
          refine seq_run0 (stp_assign (.dat _) rfl) ?_
          refine awp_joinE (ι := (List Bs)) (fun i => [(6, .row 3 i.length), (7, .dat (vlst (List.map C_string r10))), (8, .dat (vint (k13 : Int))), (25, .dat (vlst (List.map C_string r10))), (26, .dat (vint (r10.length : Int))), (27, .dat (vint (k13 : Int)))]) (fun i => [(3, .row 9 1 (List.map C_string i))]) (fun i => message_NormalPath_J3 r10 k13 i = some q14) (fun i => rfl) ?_ ?_
          · refine awp_cv ?_
            refine awp_seq ?_
            refine awp_plain hN rfl ?_
            refine seq_run0 (stp_move (.dat _) rfl) ?_
            refine awp_block ?_
            refine awp_seq ?_
            refine awp_plain hN rfl ?_
            refine seq_run0 (stp_seql rfl rfl) ?_
            refine seq_run0 (stp_assign (.dat _) rfl) ?_
            refine awp_cond _ rfl (fun h22 => ?_) (fun h22 => ?_)
            · replace H := ift h22 H
              refine awp_skip ?_
              show Cv _ _ _ _
              refine cv_ren (rn [(1, 3)]) [(6, .row 1 l12.length), (7, .dat (vlst (List.map C_string r10))), (8, .dat (vint (k13 : Int))), (25, .dat (vlst (List.map C_string r10))), (26, .dat (vint (r10.length : Int))), (27, .dat (vint (k13 : Int)))] [(1, .row 9 1 (List.map C_string l12))] ⟨rfl, rfl, rfl, rfl, rfl, rfl, trivial⟩ ⟨rfl, trivial⟩ rfl rfl ?_
              exact ⟨l12, H, ⟨rfl, rfl, rfl, rfl, rfl, rfl, trivial⟩, ⟨rfl, trivial⟩⟩
            · replace H := iff_ h22 H
              refine awp_seq ?_
              refine awp_plain hN rfl ?_
              refine seq_run0 (stp_seql rfl rfl) ?_
              refine seq_run0 (stp_assign (.dat _) rfl) ?_
              refine awp_cond _ rfl (fun h23 => ?_) (fun h23 => ?_)
              · replace H := ift h23 H
                refine awp_plain hN rfl ?_
                refine seq_run0 (stp_move (.row _ _) rfl) ?_
                refine seq_run0 (stp_move (.row _ _) rfl) ?_
                refine seq_run1 (t_lenR tyU60 rfl rfl) rfl ?_
                refine seq_run0 (stp_wrap _ rfl rfl (.inr (.inl ⟨rfl, rfl⟩))) ?_
                refine seq_run0 (stp_max rfl rfl) ?_
                obtain ⟨h24, H⟩ := gif H
                refine seq_run3 (t_cut (C := C_string) 2 tyE60 rfl rfl rfl h24) rfl rfl ?_
                refine seq_run0 (stp_assign (.row _ _) rfl) ?_
                refine seq_end ?_
                show Cv _ _ _ _
                refine cv_ren (rn [(2, 3)]) [(6, .row 2 ((max (wr ((l12.length : Int) - 1)) 0).toNat)), (7, .dat (vlst (List.map C_string r10))), (8, .dat (vint (k13 : Int))), (25, .dat (vlst (List.map C_string r10))), (26, .dat (vint (r10.length : Int))), (27, .dat (vint (k13 : Int)))] [(2, .row 9 1 (List.map C_string (l12.take (max (wr ((l12.length : Int) - 1)) 0).toNat)))] ⟨rfl, rfl, rfl, rfl, rfl, rfl, trivial⟩ ⟨rfl, trivial⟩ rfl rfl ?_
                exact ⟨(l12.take (max (wr ((l12.length : Int) - 1)) 0).toNat), H, ⟨congrArg (Slot.row 3) ((cut_len h24)).symm, rfl, rfl, rfl, rfl, rfl, trivial⟩, ⟨rfl, trivial⟩⟩
              · replace H := iff_ h23 H
                refine awp_seq ?_
                refine awp_plain hN rfl ?_
                refine seq_run0 (stp_move (.row _ _) rfl) ?_
                refine seq_run0 (stp_move (.dat _) rfl) ?_
                refine seq_run0 (stp_dat (u' := vlst (List.map C_string [x16])) (stp_lit [[_]] tyL60 ⟨rfl, .inl ⟨_, rfl, rfl, rfl⟩, rfl, trivial⟩ rfl rfl) rfl) ?_
                obtain ⟨h25, H⟩ := gif H
                refine seq_run2 (t_app tyL60 (fun _ => rfl) rfl rfl rfl ⟨by simp, by first | (simp; done) | simpa using h25⟩ rfl) rfl ?_
                refine seq_run0 (stp_assign (.row _ _) rfl) ?_
                refine awp_exit ?_
                show Cv _ _ _ _
                refine cv_in ?_
                show Cv _ _ _ _
                refine cv_ren (rn [(1, 4)]) [(6, .row 1 ((l12 ++ [x16]).length)), (7, .dat (vlst (List.map C_string r10))), (25, .dat (vlst (List.map C_string r10))), (26, .dat (vint (r10.length : Int))), (27, .dat (vint (k13 : Int)))] [(1, .row 9 1 (List.map C_string (l12 ++ [x16])))] ⟨rfl, rfl, rfl, rfl, rfl, trivial⟩ ⟨rfl, trivial⟩ rfl rfl ?_
                exact ⟨(l12 ++ [x16]), H, ⟨rfl, rfl, rfl, rfl, rfl, trivial⟩, ⟨rfl, trivial⟩⟩
          · rintro out26 H
            replace H : message_NormalPath_J3 r10 k13 out26 = some q14 := H
            unfold message_NormalPath_J3 at H
            refine awp_seq ?_
            refine awp_plain hN rfl ?_
            refine seq_run0 (stp_move (.dat _) rfl) ?_
            refine seq_run0 (stp_move (.dat _) rfl) ?_
            refine seq_run0 (t_len tyU60 rfl) ?_
            refine seq_run0 (stp_wrap _ rfl rfl (.inr (.inl ⟨rfl, rfl⟩))) ?_
            refine seq_run0 (stp_eql rfl rfl) ?_
            refine awp_cond _ rfl (fun h27 => ?_) (fun h27 => ?_)
            · replace H := ift h27 H
              refine awp_plain hN rfl ?_
              refine seq_run0 (stp_move (.row _ _) rfl) ?_
              refine seq_run0 (stp_dat (u' := vlst (List.map C_string [[]])) (stp_lit [[_]] tyL60 ⟨rfl, .inl ⟨_, rfl, rfl, rfl⟩, rfl, trivial⟩ rfl rfl) rfl) ?_
              obtain ⟨h28, H⟩ := gif H
              refine seq_run2 (t_app tyL60 (fun _ => rfl) rfl rfl rfl ⟨by simp, by first | (simp; done) | simpa using h28⟩ rfl) rfl ?_
              refine seq_run0 (stp_assign (.row _ _) rfl) ?_
              refine seq_end ?_
              show Cv _ _ _ _
              refine cv_ren (rn [(3, 4)]) [(6, .row 3 ((out26 ++ ([[]])).length)), (7, .dat (vlst (List.map C_string r10))), (25, .dat (vlst (List.map C_string r10))), (26, .dat (vint (r10.length : Int))), (27, .dat (vint (k13 : Int)))] [(3, .row 9 1 (List.map C_string (out26 ++ ([[]]))))] ⟨rfl, rfl, rfl, rfl, rfl, trivial⟩ ⟨rfl, trivial⟩ rfl rfl ?_
              exact ⟨(out26 ++ ([[]])), H, ⟨rfl, rfl, rfl, rfl, rfl, trivial⟩, ⟨rfl, trivial⟩⟩
            · replace H := iff_ h27 H
              refine awp_skip ?_
              show Cv _ _ _ _
              refine cv_ren (rn [(3, 4)]) [(6, .row 3 out26.length), (7, .dat (vlst (List.map C_string r10))), (25, .dat (vlst (List.map C_string r10))), (26, .dat (vint (r10.length : Int))), (27, .dat (vint (k13 : Int)))] [(3, .row 9 1 (List.map C_string out26))] ⟨rfl, rfl, rfl, rfl, rfl, trivial⟩ ⟨rfl, trivial⟩ rfl rfl ?_
              exact ⟨out26, H, ⟨rfl, rfl, rfl, rfl, rfl, trivial⟩, ⟨rfl, trivial⟩⟩
        · rintro out29 H
          replace H : message_NormalPath_J2 out29 = some q14 := H
          unfold message_NormalPath_J2 at H
          refine awp_plain hN rfl ?_
          refine seq_run0 (stp_add rfl rfl (by omega)) ?_
          refine seq_run0 (stp_move (.dat _) rfl) ?_
          refine seq_end ?_
          show Cv _ _ _ _
          refine cv_ren (rn [(4, 1)]) [(6, .row 4 out29.length), (7, .dat (vlst (List.map C_string r10))), (25, .dat (vlst (List.map C_string r10))), (26, .dat (vint (r10.length : Int))), (27, .dat (vint ((k13 : Int) + 1)))] [(4, .row 9 1 (List.map C_string out29))] ⟨rfl, rfl, rfl, rfl, rfl, trivial⟩ ⟨rfl, trivial⟩ rfl rfl ?_
          exact ⟨_, backl H, ⟨rfl, rfl, rfl, rfl, rfl, trivial⟩, ⟨rfl, trivial⟩⟩
theorem k_gatelaw2_spoken  (r : (Bool)) (H : m_gatelaw2_spoken  = some r) : Fn Tryz.prog 15 [] (resOf [vbool r]) := by
  refine ⟨by kernel_rfl, pure_of (us := [vbool r]) Tryz.func15 rfl rfl rfl rfl fun X hN => ?_⟩
  unfold m_gatelaw2_spoken at H
  refine awp_seq ?_
  refine awp_plain hN rfl ?_
  refine seq_run0 (stp_assign (.dat _) rfl) ?_
  refine awp_seq ?_
  refine awp_plain hN rfl ?_
  obtain ⟨r1, h2, H⟩ := bnd H
  refine seq_run0 (stp_call (k_message_NormalPath [47, 97, 47, 46, 46, 47, 98] r1 h2) ⟨.inl rfl, trivial⟩) ?_
  refine seq_run0 (stp_move (.dat _) rfl) ?_
  refine seq_run0 (stp_ext rfl rfl) ?_
  refine seq_run0 (stp_ext rfl rfl) ?_
  refine seq_run0 (stp_assign (.dat _) rfl) ?_
  refine seq_run0 (stp_assign (.dat _) rfl) ?_
  refine awp_seq ?_
  refine awp_plain hN rfl ?_
  refine seq_run0 (stp_move (.dat _) rfl) ?_
  refine seq_run0 (stp_eql rfl rfl) ?_
  refine seq_run0 (stp_move (.dat _) rfl) ?_
  refine seq_aT rfl rfl (fun hc => stp_move (.dat _) rfl) ?_
  refine seq_aT rfl rfl (fun hc => stp_seql (cnd (c := (decide (r1.2 = 0))) hc) rfl) ?_
  refine seq_run0 (stp_pick_and rfl (fun hb => (cnd (c := (decide (r1.2 = 0))) hb)) rfl) ?_
  refine seq_run0 (stp_assign (.dat _) rfl) ?_
  refine awp_ret ?_
  cases H
  exact ⟨trivial, .inl rfl, trivial⟩
theorem k_gatelaw2_CookiesRead (v1 : (List Int)) (r : (Bool)) (H : m_gatelaw2_CookiesRead v1 = some r) : Fn Tryz.prog 3 [vlst (List.map C_int v1)] (resOf [vbool r]) := by
  refine ⟨by kernel_rfl, pure_of (us := [vbool r]) Tryz.func3 rfl rfl rfl rfl fun X hN => ?_⟩
  unfold m_gatelaw2_CookiesRead at H
  refine awp_seq ?_
  refine awp_plain hN rfl ?_
  refine seq_run0 (stp_assign (.dat _) rfl) ?_
  refine awp_seq ?_
  refine awp_plain hN rfl ?_
  refine seq_run0 (stp_move (.dat _) rfl) ?_
  refine seq_run0 (stp_dat (u' := vagg (C_gatemake_Stream (S_gatemake_Stream.mk v1 0))) (stp_build [(0, [vlst (List.map C_int v1)])] tyZ25 tyP25 rfl ⟨rfl, .inl ⟨_, rfl, rfl, rfl⟩, rfl, trivial⟩) rfl) ?_
  refine seq_run2 (stp_boxA 1 rfl) rfl ?_
  refine seq_run0 (stp_assign (.ptr _ _) rfl) ?_
  refine awp_seq ?_
  refine awp_plain hN rfl ?_
  refine seq_run0 (stp_move (.ptr _ _) rfl) ?_
  obtain ⟨r2, h3, H⟩ := bnd H
  refine seq_run2 (stp_imp (k_gatemake_Stream_CookieHeaders (S_gatemake_Stream.mk v1 0) r2 h3) rfl trivial rfl) rfl ?_
  refine seq_run0 (stp_move (.ptr _ _) rfl) ?_
  obtain ⟨r4, h5, H⟩ := bnd H
  refine seq_run2 (stp_imp (k_gatemake_Stream_SetCookie r2.2 r4 h5) rfl trivial rfl) rfl ?_
  refine seq_run0 (stp_move (.ptr _ _) rfl) ?_
  obtain ⟨r6, h7, H⟩ := bnd H
  refine seq_run2 (stp_imp (k_gatemake_Stream_CookieString r4.2 r6 h7) rfl trivial rfl) rfl ?_
  refine seq_run2 (stp_alloc 2 tyZ29 rfl) rfl ?_
  refine seq_run0 (stp_assign (.dat _) rfl) ?_
  refine seq_run2 (stp_storeW tyS29 rfl rfl rfl rfl) rfl ?_
  refine seq_run0 (stp_assign (.dat _) rfl) ?_
  refine awp_seq ?_
  refine awp_plain hN rfl ?_
  refine seq_run0 (stp_move (.dat _) rfl) ?_
  obtain ⟨r8, h9, H⟩ := bnd H
  refine seq_run0 (stp_call (k_message_Cookies r2.1 r8 h9) ⟨.inl rfl, trivial⟩) ?_
  refine seq_run0 (stp_move (.dat _) rfl) ?_
  refine seq_run0 (stp_ext rfl rfl) ?_
  refine seq_run0 (stp_ext rfl rfl) ?_
  refine seq_run0 (stp_assign (.dat _) rfl) ?_
  refine seq_run0 (stp_assign (.dat _) rfl) ?_
  refine awp_seq ?_
  refine awp_plain hN rfl ?_
  refine seq_run0 (stp_move (.dat _) rfl) ?_
  obtain ⟨r10, h11, H⟩ := bnd H
  refine seq_run0 (stp_call (k_gateref2_CookiesOf r2.1 r10 h11) ⟨.inl rfl, trivial⟩) ?_
  refine seq_run0 (stp_move (.dat _) rfl) ?_
  refine seq_run0 (stp_ext rfl rfl) ?_
  refine seq_run0 (stp_ext rfl rfl) ?_
  refine seq_run0 (stp_assign (.dat _) rfl) ?_
  refine seq_run0 (stp_assign (.dat _) rfl) ?_
  refine awp_seq ?_
  refine awp_plain hN rfl ?_
  refine seq_run1 (stp_loadA tyS29 rfl rfl rfl) rfl ?_
  obtain ⟨r12, h13, H⟩ := bnd H
  refine seq_run0 (stp_call (k_message_CookieText r4.1 r12 h13) ⟨.inl rfl, trivial⟩) ?_
  refine seq_run0 (stp_move (.dat _) rfl) ?_
  refine seq_run0 (stp_ext rfl rfl) ?_
  refine seq_run0 (stp_ext rfl rfl) ?_
  refine seq_run0 (stp_assign (.dat _) rfl) ?_
  refine seq_run0 (stp_assign (.dat _) rfl) ?_
  refine awp_seq ?_
  refine awp_plain hN rfl ?_
  refine seq_run1 (stp_loadA tyS29 rfl rfl rfl) rfl ?_
  obtain ⟨r14, h15, H⟩ := bnd H
  refine seq_run0 (stp_call (k_gateref2_CookieFault r4.1 r14 h15) ⟨.inl rfl, trivial⟩) ?_
  refine seq_run0 (stp_assign (.dat _) rfl) ?_
  refine seq_run0 (stp_assign (.dat _) rfl) ?_
  refine awp_joinE (ι := Bs) (fun i => [(6, .dat (vstr r6.1)), (7, .dat (vlst (List.map C_api_Pair r8.1))), (8, .dat (vint r8.2)), (9, .dat (vlst (List.map C_api_Pair r10.1))), (10, .dat (vint r10.2)), (11, .dat (vstr r12.1)), (12, .dat (vint r12.2)), (13, .dat (vstr i)), (14, .dat (vint r14))]) (fun i => []) (fun i => gatelaw2_CookiesRead_J1 r6 r8 r10 r12 r14 i = some r) (fun i => rfl) ?_ ?_
  · skip
    refine awp_seq ?_
    refine awp_plain hN rfl ?_
    refine seq_run0 (stp_move (.dat _) rfl) ?_
    refine seq_run0 (stp_eql rfl rfl) ?_
    refine awp_cond _ rfl (fun h16 => ?_) (fun h16 => ?_)
    · replace H := ift h16 H
      refine awp_plain hN rfl ?_
      refine seq_run1 (stp_loadA tyS29 rfl rfl rfl) rfl ?_
      obtain ⟨r17, h18, H⟩ := bnd H
      refine seq_run0 (stp_call (k_gateref2_CookieLine r4.1 r17 h18) ⟨.inl rfl, trivial⟩) ?_
      refine seq_run0 (stp_assign (.dat _) rfl) ?_
      exact ⟨r17, H, ⟨rfl, rfl, rfl, rfl, rfl, rfl, rfl, rfl, rfl, trivial⟩, trivial⟩
    · replace H := iff_ h16 H
      refine awp_skip ?_
      exact ⟨[], H, ⟨rfl, rfl, rfl, rfl, rfl, rfl, rfl, rfl, rfl, trivial⟩, trivial⟩
  · rintro v19 H
    replace H : gatelaw2_CookiesRead_J1 r6 r8 r10 r12 r14 v19 = some r := H
    unfold gatelaw2_CookiesRead_J1 at H
    refine awp_seq ?_
    refine awp_plain hN rfl ?_
    refine seq_run0 (stp_move (.dat _) rfl) ?_
    obtain ⟨r20, h21, H⟩ := bnd H
    refine seq_run0 (stp_call (k_message_ParseCookie r6.1 r20 h21) ⟨.inl rfl, trivial⟩) ?_
    refine seq_run0 (stp_move (.dat _) rfl) ?_
    refine seq_run0 (stp_ext rfl rfl) ?_
    refine seq_run0 (stp_ext rfl rfl) ?_
    refine seq_run2 (stp_alloc 3 tyZ29 rfl) rfl ?_
    refine seq_run2 (stp_storeW tyS29 rfl rfl rfl rfl) rfl ?_
    refine seq_run0 (stp_assign (.dat _) rfl) ?_
    refine awp_seq ?_
    refine awp_plain hN rfl ?_
    refine seq_run0 (stp_move (.dat _) rfl) ?_
    obtain ⟨r22, h23, H⟩ := bnd H
    refine seq_run0 (stp_call (k_gateref2_CookieOf r6.1 r22 h23) ⟨.inl rfl, trivial⟩) ?_
    refine seq_run0 (stp_move (.dat _) rfl) ?_
    refine seq_run0 (stp_ext rfl rfl) ?_
    refine seq_run0 (stp_ext rfl rfl) ?_
    refine seq_run2 (stp_alloc 4 tyZ29 rfl) rfl ?_
    refine seq_run2 (stp_storeW tyS29 rfl rfl rfl rfl) rfl ?_
    refine seq_run0 (stp_assign (.dat _) rfl) ?_
    refine awp_joinE (ι := Bool) (fun i => [(2, .dat (vbool i))]) (fun i => []) (fun i => gatelaw2_CookiesRead_J2 i = some r) (fun i => rfl) ?_ ?_
    · skip
      refine awp_plain hN rfl ?_
      refine seq_run0 (stp_move (.dat _) rfl) ?_
      refine seq_run0 (stp_move (.dat _) rfl) ?_
      obtain ⟨r24, h25, H⟩ := bnd H
      refine seq_run0 (stp_call (k_slices_Equal_L_api_Pair_api_Pair_ r8.1 r10.1 r24 h25) ⟨.inl rfl, .inl rfl, trivial⟩) ?_
      refine seq_run0 (stp_move (.dat _) rfl) ?_
      refine seq_split (j := 3) rfl rfl (fun h26 => ?_) (fun h26 => ?_) rfl
      · have h27 := un1 h26
        replace H := ift h27 H
        refine seq_g0 rfl rfl h26 (stp_move (.dat _) rfl) ?_
        refine seq_g0 rfl rfl h26 (stp_move (.dat _) rfl) ?_
        refine seq_g0 rfl rfl h26 (stp_eql rfl rfl) ?_
        refine seq_run0 (stp_pick_t rfl (bTT h27) rfl) ?_
        refine seq_run0 (stp_move (.dat _) rfl) ?_
        refine seq_split (j := 8) rfl rfl (fun h28 => ?_) (fun h28 => ?_) rfl
        · have h29 := un1 h28
          replace H := ift h29 H
          refine seq_g0 rfl rfl h28 (stp_move (.dat _) rfl) ?_
          refine seq_g0 rfl rfl h28 (stp_move (.dat _) rfl) ?_
          refine seq_g0 rfl rfl h28 (stp_seql rfl rfl) ?_
          refine seq_run0 (stp_pick_t rfl (bTT h29) rfl) ?_
          refine seq_run0 (stp_move (.dat _) rfl) ?_
          refine seq_split (j := 13) rfl rfl (fun h30 => ?_) (fun h30 => ?_) rfl
          · have h31 := un1 h30
            replace H := ift h31 H
            refine seq_g0 rfl rfl h30 (stp_move (.dat _) rfl) ?_
            refine seq_g0 rfl rfl h30 (stp_move (.dat _) rfl) ?_
            refine seq_g0 rfl rfl h30 (stp_eql rfl rfl) ?_
            refine seq_run0 (stp_pick_t rfl (bTT h31) rfl) ?_
            refine seq_run0 (stp_move (.dat _) rfl) ?_
            refine seq_split (j := 18) rfl rfl (fun h32 => ?_) (fun h32 => ?_) rfl
            · have h33 := un1 h32
              replace H := ift h33 H
              refine seq_g1 rfl rfl h32 (stp_loadA tyS29 rfl rfl rfl) rfl ?_
              refine seq_g1 rfl rfl h32 (stp_loadA tyS29 rfl rfl rfl) rfl ?_
              refine seq_g0 rfl rfl h32 (stp_aeql [_, _, _, _, _, _, _] [_, _, _, _, _, _, _] tyQ29 rfl rfl rfl) ?_
              refine seq_run0 (stp_pick_t rfl (bTT h33) rfl) ?_
              refine seq_run0 (stp_move (.dat _) rfl) ?_
              refine seq_split (j := 23) rfl rfl (fun h34 => ?_) (fun h34 => ?_) rfl
              · have h35 := un1 h34
                replace H := ift h35 H
                refine seq_g0 rfl rfl h34 (stp_move (.dat _) rfl) ?_
                refine seq_g0 rfl rfl h34 (stp_move (.dat _) rfl) ?_
                refine seq_g0 rfl rfl h34 (stp_eql rfl rfl) ?_
                refine seq_run0 (stp_pick_t rfl (bTT h35) rfl) ?_
                refine seq_run0 (stp_move (.dat _) rfl) ?_
                refine seq_split (j := 28) rfl rfl (fun h36 => ?_) (fun h36 => ?_) rfl
                · have h37 := un1 h36
                  replace H := ift h37 H
                  obtain ⟨r38, h39, H⟩ := bnd H
                  refine seq_g0 rfl rfl h36 (stp_call (k_gatelaw2_spoken  r38 h39) trivial) ?_
                  refine seq_run0 (stp_pick_t rfl (bTT h37) rfl) ?_
                  refine seq_run0 (stp_assign (.dat _) rfl) ?_
                  exact ⟨r38, H, ⟨rfl, trivial⟩, trivial⟩
                · have h40 := un2 h36
                  replace H := iff_ h40 H
                  refine seq_skip rfl rfl h36 ?_
                  refine seq_run0 (stp_pick_f rfl (bFF h40) rfl) ?_
                  refine seq_run0 (stp_assign (.dat _) rfl) ?_
                  exact ⟨false, H, ⟨rfl, trivial⟩, trivial⟩
              · have h41 := un2 h34
                replace H := iff_ h41 H
                refine seq_skip rfl rfl h34 ?_
                refine seq_skip rfl rfl h34 ?_
                refine seq_skip rfl rfl h34 ?_
                refine seq_run0 (stp_pick_f rfl (bFF h41) rfl) ?_
                refine seq_run0 (stp_move (.dat _) rfl) ?_
                refine seq_skip rfl rfl rfl ?_
                refine seq_run0 (stp_pick_f rfl rfl rfl) ?_
                refine seq_run0 (stp_assign (.dat _) rfl) ?_
                exact ⟨false, H, ⟨rfl, trivial⟩, trivial⟩
            · have h42 := un2 h32
              replace H := iff_ h42 H
              refine seq_skip rfl rfl h32 ?_
              refine seq_skip rfl rfl h32 ?_
              refine seq_skip rfl rfl h32 ?_
              refine seq_run0 (stp_pick_f rfl (bFF h42) rfl) ?_
              refine seq_run0 (stp_move (.dat _) rfl) ?_
              refine seq_skip rfl rfl rfl ?_
              refine seq_skip rfl rfl rfl ?_
              refine seq_skip rfl rfl rfl ?_
              refine seq_run0 (stp_pick_f rfl rfl rfl) ?_
              refine seq_run0 (stp_move (.dat _) rfl) ?_
              refine seq_skip rfl rfl rfl ?_
              refine seq_run0 (stp_pick_f rfl rfl rfl) ?_
              refine seq_run0 (stp_assign (.dat _) rfl) ?_
              exact ⟨false, H, ⟨rfl, trivial⟩, trivial⟩
          · have h43 := un2 h30
            replace H := iff_ h43 H
            refine seq_skip rfl rfl h30 ?_
            refine seq_skip rfl rfl h30 ?_
            refine seq_skip rfl rfl h30 ?_
            refine seq_run0 (stp_pick_f rfl (bFF h43) rfl) ?_
            refine seq_run0 (stp_move (.dat _) rfl) ?_
            refine seq_skip rfl rfl rfl ?_
            refine seq_skip rfl rfl rfl ?_
            refine seq_skip rfl rfl rfl ?_
            refine seq_run0 (stp_pick_f rfl rfl rfl) ?_
            refine seq_run0 (stp_move (.dat _) rfl) ?_
            refine seq_skip rfl rfl rfl ?_
            refine seq_skip rfl rfl rfl ?_
            refine seq_skip rfl rfl rfl ?_
            refine seq_run0 (stp_pick_f rfl rfl rfl) ?_
            refine seq_run0 (stp_move (.dat _) rfl) ?_
            refine seq_skip rfl rfl rfl ?_
            refine seq_run0 (stp_pick_f rfl rfl rfl) ?_
            refine seq_run0 (stp_assign (.dat _) rfl) ?_
            exact ⟨false, H, ⟨rfl, trivial⟩, trivial⟩
        · have h44 := un2 h28
          replace H := iff_ h44 H
          refine seq_skip rfl rfl h28 ?_
          refine seq_skip rfl rfl h28 ?_
          refine seq_skip rfl rfl h28 ?_
          refine seq_run0 (stp_pick_f rfl (bFF h44) rfl) ?_
          refine seq_run0 (stp_move (.dat _) rfl) ?_
          refine seq_skip rfl rfl rfl ?_
          refine seq_skip rfl rfl rfl ?_
          refine seq_skip rfl rfl rfl ?_
          refine seq_run0 (stp_pick_f rfl rfl rfl) ?_
          refine seq_run0 (stp_move (.dat _) rfl) ?_
          refine seq_skip rfl rfl rfl ?_
          refine seq_skip rfl rfl rfl ?_
          refine seq_skip rfl rfl rfl ?_
          refine seq_run0 (stp_pick_f rfl rfl rfl) ?_
          refine seq_run0 (stp_move (.dat _) rfl) ?_
          refine seq_skip rfl rfl rfl ?_
          refine seq_skip rfl rfl rfl ?_
          refine seq_skip rfl rfl rfl ?_
          refine seq_run0 (stp_pick_f rfl rfl rfl) ?_
          refine seq_run0 (stp_move (.dat _) rfl) ?_
          refine seq_skip rfl rfl rfl ?_
          refine seq_run0 (stp_pick_f rfl rfl rfl) ?_
          refine seq_run0 (stp_assign (.dat _) rfl) ?_
          exact ⟨false, H, ⟨rfl, trivial⟩, trivial⟩
      · have h45 := un2 h26
        replace H := iff_ h45 H
        refine seq_skip rfl rfl h26 ?_
        refine seq_skip rfl rfl h26 ?_
        refine seq_skip rfl rfl h26 ?_
        refine seq_run0 (stp_pick_f rfl (bFF h45) rfl) ?_
        refine seq_run0 (stp_move (.dat _) rfl) ?_
        refine seq_skip rfl rfl rfl ?_
        refine seq_skip rfl rfl rfl ?_
        refine seq_skip rfl rfl rfl ?_
        refine seq_run0 (stp_pick_f rfl rfl rfl) ?_
        refine seq_run0 (stp_move (.dat _) rfl) ?_
        refine seq_skip rfl rfl rfl ?_
        refine seq_skip rfl rfl rfl ?_
        refine seq_skip rfl rfl rfl ?_
        refine seq_run0 (stp_pick_f rfl rfl rfl) ?_
        refine seq_run0 (stp_move (.dat _) rfl) ?_
        refine seq_skip rfl rfl rfl ?_
        refine seq_skip rfl rfl rfl ?_
        refine seq_skip rfl rfl rfl ?_
        refine seq_run0 (stp_pick_f rfl rfl rfl) ?_
        refine seq_run0 (stp_move (.dat _) rfl) ?_
        refine seq_skip rfl rfl rfl ?_
        refine seq_skip rfl rfl rfl ?_
        refine seq_skip rfl rfl rfl ?_
        refine seq_run0 (stp_pick_f rfl rfl rfl) ?_
        refine seq_run0 (stp_move (.dat _) rfl) ?_
        refine seq_skip rfl rfl rfl ?_
        refine seq_run0 (stp_pick_f rfl rfl rfl) ?_
        refine seq_run0 (stp_assign (.dat _) rfl) ?_
        exact ⟨false, H, ⟨rfl, trivial⟩, trivial⟩
    · rintro v46 H
      replace H : gatelaw2_CookiesRead_J2 v46 = some r := H
      unfold gatelaw2_CookiesRead_J2 at H
      refine awp_ret ?_
      cases H
      exact ⟨trivial, .inl rfl, trivial⟩
end Go.Proofs.YthodoodnkohdaaaGreatDoor
