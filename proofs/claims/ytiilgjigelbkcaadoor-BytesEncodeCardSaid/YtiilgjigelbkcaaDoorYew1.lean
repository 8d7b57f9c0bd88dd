/- Walks along the models. Printed by a program. -/
import Derived.Test.YtiilgjigelbkcaaDoorYec
namespace Go.Proofs.YtiilgjigelbkcaaDoor
open Go.RowKit
set_option linter.unusedVariables false
set_option maxRecDepth 20000
theorem k_gatemake_Below (x1 : Int) (n2 : Int) (r : (Int)) (H : m_gatemake_Below x1 n2 = some r) : Fn Tryd.prog 27 [vint x1, vint n2] (resOf [vint r]) := by
  refine ⟨by kernel_rfl, pure_of (us := [vint r]) Tryd.func27 rfl rfl rfl rfl fun X hN => ?_⟩
  unfold m_gatemake_Below at H
  refine awp_seq ?_
  refine awp_plain hN rfl ?_
  refine seq_run0 (stp_assign (.dat _) rfl) ?_
  refine awp_seq ?_
  refine awp_seq ?_
  refine awp_plain hN rfl ?_
  refine seq_run0 (stp_move (.dat _) rfl) ?_
  refine seq_run0 (stp_lss rfl rfl) ?_
  refine awp_cond _ rfl (fun h3 => ?_) (fun h3 => ?_)
  · replace H := ift h3 H
    refine awp_seq ?_
    refine awp_plain hN rfl ?_
    refine seq_run0 (stp_assign (.dat _) rfl) ?_
    refine awp_ret ?_
    cases H
    exact ⟨trivial, .inl rfl, trivial⟩
  · replace H := iff_ h3 H
    refine awp_skip ?_
    refine awp_seq ?_
    refine awp_plain hN rfl ?_
    refine seq_run0 (stp_move (.dat _) rfl) ?_
    refine seq_run0 (stp_move (.dat _) rfl) ?_
    obtain ⟨h4, H⟩ := gif H
    refine seq_run0 (stp_remT rfl rfl h4) ?_
    refine seq_run0 (stp_assign (.dat _) rfl) ?_
    refine awp_joinE (ι := Int) (fun i => [(0, .dat (vint i))]) (fun i => []) (fun i => gatemake_Below_J1 i = some r) (fun i => rfl) ?_ ?_
    · skip
      refine awp_seq ?_
      refine awp_plain hN rfl ?_
      refine seq_run0 (stp_move (.dat _) rfl) ?_
      refine seq_run0 (stp_lss rfl rfl) ?_
      refine awp_cond _ rfl (fun h5 => ?_) (fun h5 => ?_)
      · replace H := ift h5 H
        refine awp_plain hN rfl ?_
        refine seq_run0 (stp_move (.dat _) rfl) ?_
        refine seq_run0 (stp_move (.dat _) rfl) ?_
        refine seq_run0 (stp_wrap _ rfl rfl (.inl ⟨rfl, rfl⟩)) ?_
        refine seq_run0 (stp_assign (.dat _) rfl) ?_
        exact ⟨wr ((Int.tmod x1 n2) + n2), H, ⟨rfl, trivial⟩, trivial⟩
      · replace H := iff_ h5 H
        refine awp_skip ?_
        exact ⟨(Int.tmod x1 n2), H, ⟨rfl, trivial⟩, trivial⟩
    · rintro x6 H
      replace H : gatemake_Below_J1 x6 = some r := H
      unfold gatemake_Below_J1 at H
      refine awp_seq ?_
      refine awp_plain hN rfl ?_
      refine seq_run0 (stp_move (.dat _) rfl) ?_
      refine seq_run0 (stp_assign (.dat _) rfl) ?_
      refine awp_ret ?_
      cases H
      exact ⟨trivial, .inl rfl, trivial⟩
theorem k_gatemake_Stream_Next (s1 : S_gatemake_Stream) (n2 : Int) (r : (Int × S_gatemake_Stream)) (H : m_gatemake_Stream_Next s1 n2 = some r) : Imp Tryd.prog 16 25 (C_gatemake_Stream s1) [vint n2] (resOf [vint r.1]) (C_gatemake_Stream r.2) := by
  refine imp_of (us := [vint r.1]) (cs' := (C_gatemake_Stream r.2)) (by kernel_rfl) Tryd.func16 rfl rfl rfl rfl fun X bl hN => ?_
  unfold m_gatemake_Stream_Next at H
  refine awp_seq ?_
  refine awp_plain hN rfl ?_
  refine seq_run0 (stp_assign (.dat _) rfl) ?_
  refine awp_seq ?_
  refine awp_plain hN rfl ?_
  refine seq_run0 (stp_move (.ptr _ _) rfl) ?_
  refine seq_run0 (stp_nilP rfl) ?_
  refine seq_run0 (stp_fldP tyF25_1 rfl) ?_
  refine seq_run1 (stp_load1 tyS3 rfl rfl) rfl ?_
  refine seq_run0 (stp_wrap _ rfl rfl (.inl ⟨rfl, rfl⟩)) ?_
  refine seq_run0 (stp_nilP rfl) ?_
  refine seq_run0 (stp_fldP tyF25_1 rfl) ?_
  refine seq_run2 (stp_store1 tyS3 rfl rfl rfl rfl) rfl ?_
  refine awp_seq ?_
  refine awp_seq ?_
  refine awp_plain hN rfl ?_
  refine seq_run0 (stp_move (.ptr _ _) rfl) ?_
  refine seq_run0 (stp_nilP rfl) ?_
  refine seq_run0 (stp_fldP tyF25_0 rfl) ?_
  refine seq_run1 (stp_load1 tyS22 rfl rfl) rfl ?_
  refine seq_run0 (t_len tyU22 rfl) ?_
  refine seq_run0 (stp_eql rfl rfl) ?_
  refine awp_cond _ rfl (fun h3 => ?_) (fun h3 => ?_)
  · replace H := ift h3 H
    refine awp_seq ?_
    refine awp_plain hN rfl ?_
    refine seq_run0 (stp_move (.ptr _ _) rfl) ?_
    refine seq_run0 (stp_nilP rfl) ?_
    refine seq_run0 (stp_fldP tyF25_1 rfl) ?_
    refine seq_run1 (stp_load1 tyS3 rfl rfl) rfl ?_
    refine seq_run0 (stp_wrap _ rfl rfl (.inr (.inr ⟨rfl, rfl⟩))) ?_
    refine seq_run0 (stp_move (.dat _) rfl) ?_
    obtain ⟨r4, h5, H⟩ := bnd H
    refine seq_run0 (stp_call (k_gatemake_Below (wr ((wr (s1.at_ + 1)) * 7919)) n2 r4 h5) ⟨.inl rfl, .inl rfl, trivial⟩) ?_
    refine seq_run0 (stp_assign (.dat _) rfl) ?_
    refine awp_ret ?_
    cases H
    exact ⟨trivial, ⟨.inl rfl, trivial⟩, rfl⟩
  · replace H := iff_ h3 H
    refine awp_skip ?_
    refine awp_seq ?_
    refine awp_draw mixed hN rfl rfl ?_
    refine seq_run0 (stp_move (.ptr _ _) rfl) ?_
    refine seq_run0 (stp_nilP rfl) ?_
    refine seq_run0 (stp_fldP tyF25_1 rfl) ?_
    refine seq_run1 (stp_load1 tyS3 rfl rfl) rfl ?_
    refine seq_run0 (stp_wrap _ rfl rfl (.inr (.inl ⟨rfl, rfl⟩))) ?_
    refine seq_run0 (stp_move (.ptr _ _) rfl) ?_
    refine seq_run0 (stp_nilP rfl) ?_
    refine seq_run0 (stp_fldP tyF25_0 rfl) ?_
    refine seq_run1 (stp_load1 tyS22 rfl rfl) rfl ?_
    refine seq_run0 (t_len tyU22 rfl) ?_
    obtain ⟨h6, H⟩ := gif H
    refine seq_run0 (stp_remT rfl rfl h6) ?_
    refine seq_run0 (stp_assign (.dat _) rfl) ?_
    refine ⟨rfl, ?_⟩
    refine awp_seq ?_
    refine awp_draw mixed hN rfl rfl ?_
    refine seq_run0 (stp_move (.ptr _ _) rfl) ?_
    refine seq_run0 (stp_nilP rfl) ?_
    refine seq_run0 (stp_fldP tyF25_1 rfl) ?_
    refine seq_run1 (stp_load1 tyS3 rfl rfl) rfl ?_
    refine seq_run0 (stp_wrap _ rfl rfl (.inr (.inl ⟨rfl, rfl⟩))) ?_
    refine seq_run0 (stp_move (.ptr _ _) rfl) ?_
    refine seq_run0 (stp_nilP rfl) ?_
    refine seq_run0 (stp_fldP tyF25_0 rfl) ?_
    refine seq_run1 (stp_load1 tyS22 rfl rfl) rfl ?_
    refine seq_run0 (t_len tyU22 rfl) ?_
    obtain ⟨h7, H⟩ := gif H
    refine seq_run0 (stp_quo rfl rfl h7.1 h7.2) ?_
    refine seq_run0 (stp_assign (.dat _) rfl) ?_
    refine ⟨rfl, ?_⟩
    refine awp_seq ?_
    refine awp_plain hN rfl ?_
    refine seq_run0 (stp_move (.ptr _ _) rfl) ?_
    refine seq_run0 (stp_nilP rfl) ?_
    refine seq_run0 (stp_fldP tyF25_0 rfl) ?_
    refine seq_run1 (stp_load1 tyS22 rfl rfl) rfl ?_
    refine seq_run0 (stp_move (.dat _) rfl) ?_
    obtain ⟨x8, h9, H⟩ := bnd H
    refine seq_run0 (t_idxI tyE22 (fun _ => rfl) rfl rfl h9) ?_
    refine seq_run0 (stp_loadE1 tyS3 rfl (map_at (at_some h9).2) rfl) ?_
    obtain ⟨r10, h11, H⟩ := bnd H
    refine seq_run0 (stp_call (k_gatemake_Below x8 1073741824 r10 h11) ⟨.inl rfl, .inl rfl, trivial⟩) ?_
    refine seq_run0 (stp_move (.dat _) rfl) ?_
    refine seq_run0 (stp_move (.dat _) rfl) ?_
    refine seq_run0 (stp_wrap _ rfl rfl (.inl ⟨rfl, rfl⟩)) ?_
    refine seq_run0 (stp_wrap _ rfl rfl (.inr (.inr ⟨rfl, rfl⟩))) ?_
    refine seq_run0 (stp_wrap _ rfl rfl (.inl ⟨rfl, rfl⟩)) ?_
    refine seq_run0 (stp_move (.dat _) rfl) ?_
    obtain ⟨r12, h13, H⟩ := bnd H
    refine seq_run0 (stp_call (k_gatemake_Below (wr (r10 + (wr (((wr ((wr (s1.at_ + 1)) - 1)) / (s1.L.length : Int)) * (wr (7919 + (Int.tmod (wr ((wr (s1.at_ + 1)) - 1)) (s1.L.length : Int)))))))) n2 r12 h13) ⟨.inl rfl, .inl rfl, trivial⟩) ?_
    refine seq_run0 (stp_assign (.dat _) rfl) ?_
    refine awp_ret ?_
    cases H
    exact ⟨trivial, ⟨.inl rfl, trivial⟩, rfl⟩
theorem k_gatemake_Stream_Range (s1 : S_gatemake_Stream) (low2 : Int) (high3 : Int) (r : (Int × S_gatemake_Stream)) (H : m_gatemake_Stream_Range s1 low2 high3 = some r) : Imp Tryd.prog 4 25 (C_gatemake_Stream s1) [vint low2, vint high3] (resOf [vint r.1]) (C_gatemake_Stream r.2) := by
  refine imp_of (us := [vint r.1]) (cs' := (C_gatemake_Stream r.2)) (by kernel_rfl) Tryd.func4 rfl rfl rfl rfl fun X bl hN => ?_
  unfold m_gatemake_Stream_Range at H
  refine awp_seq ?_
  refine awp_plain hN rfl ?_
  refine seq_run0 (stp_assign (.dat _) rfl) ?_
  refine awp_seq ?_
  refine awp_seq ?_
  refine awp_plain hN rfl ?_
  refine seq_run0 (stp_move (.dat _) rfl) ?_
  refine seq_run0 (stp_move (.dat _) rfl) ?_
  refine seq_run0 (stp_lss rfl rfl) ?_
  refine awp_cond _ rfl (fun h4 => ?_) (fun h4 => ?_)
  · replace H := ift h4 H
    refine awp_seq ?_
    refine awp_plain hN rfl ?_
    refine seq_run0 (stp_move (.dat _) rfl) ?_
    refine seq_run0 (stp_assign (.dat _) rfl) ?_
    refine awp_ret ?_
    cases H
    exact ⟨trivial, ⟨.inl rfl, trivial⟩, rfl⟩
  · replace H := iff_ h4 H
    refine awp_skip ?_
    refine awp_seq ?_
    refine awp_plain hN rfl ?_
    refine seq_run0 (stp_move (.dat _) rfl) ?_
    refine seq_run0 (stp_move (.ptr _ _) rfl) ?_
    refine seq_run0 (stp_move (.dat _) rfl) ?_
    refine seq_run0 (stp_move (.dat _) rfl) ?_
    refine seq_run0 (stp_wrap _ rfl rfl (.inr (.inl ⟨rfl, rfl⟩))) ?_
    refine seq_run0 (stp_wrap _ rfl rfl (.inl ⟨rfl, rfl⟩)) ?_
    obtain ⟨r5, h6, H⟩ := bnd H
    refine seq_run2 (stp_imp (k_gatemake_Stream_Next s1 (wr ((wr (high3 - low2)) + 1)) r5 h6) rfl ⟨.inl rfl, trivial⟩ rfl) rfl ?_
    refine seq_run0 (stp_wrap _ rfl rfl (.inl ⟨rfl, rfl⟩)) ?_
    refine seq_run0 (stp_assign (.dat _) rfl) ?_
    refine awp_ret ?_
    cases H
    exact ⟨trivial, ⟨.inl rfl, trivial⟩, rfl⟩
theorem k_internal_strconv_lower (c1 : Int) (r : (Int)) (H : m_internal_strconv_lower c1 = some r) : Fn Tryd.prog 61 [vval (.int .u8 c1)] (resOf [vval (.int .u8 r)]) := by
  refine ⟨by kernel_rfl, pure_of (us := [vval (.int .u8 r)]) Tryd.func61 rfl rfl rfl rfl fun X hN => ?_⟩
  unfold m_internal_strconv_lower at H
  refine awp_seq ?_
  refine awp_plain hN rfl ?_
  refine seq_run0 (stp_assign (.dat _) rfl) ?_
  refine awp_seq ?_
  refine awp_plain hN rfl ?_
  refine seq_run0 (stp_move (.dat _) rfl) ?_
  refine seq_run0 (stp_dat (stp_or rfl rfl) rfl) ?_
  refine seq_run0 (stp_assign (.dat _) rfl) ?_
  refine awp_ret ?_
  cases H
  exact ⟨trivial, .inl rfl, trivial⟩
theorem k_internal_strconv_underscoreOK (v1 : Bs) (r : (Bool)) (H : m_internal_strconv_underscoreOK v1 = some r) : Fn Tryd.prog 62 [vstr v1] (resOf [vbool r]) := by
  refine ⟨by kernel_rfl, pure_of (us := [vbool r]) Tryd.func62 rfl rfl rfl rfl fun X hN => ?_⟩
  unfold m_internal_strconv_underscoreOK at H
  refine awp_seq ?_
  refine awp_plain hN rfl ?_
  refine seq_run0 (stp_assign (.dat _) rfl) ?_
  refine awp_seq ?_
  refine awp_plain hN rfl ?_
  refine seq_run0 (stp_assign (.dat _) rfl) ?_
  refine awp_seq ?_
  refine awp_plain hN rfl ?_
  refine seq_run0 (stp_assign (.dat _) rfl) ?_
  refine awp_joinE (ι := Bs) (fun i => [(0, .dat (vstr i)), (3, .dat (vval (.int .i32 94))), (4, .dat (vint 0))]) (fun i => []) (fun i => internal_strconv_underscoreOK_J1 i = some r) (fun i => rfl) ?_ ?_
  · skip
    refine awp_joinE (ι := Bool) (fun i => [(0, .dat (vstr v1)), (3, .dat (vval (.int .i32 94))), (4, .dat (vint 0)), (18, .dat (vbool i))]) (fun i => []) (fun i => internal_strconv_underscoreOK_J2 v1 i = some r) (fun i => rfl) ?_ ?_
    · skip
      refine awp_plain hN rfl ?_
      refine seq_run0 (stp_move (.dat _) rfl) ?_
      refine seq_run0 (stp_len_str tyU9 rfl) ?_
      refine seq_run0 (stp_geq rfl rfl) ?_
      refine seq_run0 (stp_move (.dat _) rfl) ?_
      refine seq_split (j := 3) rfl rfl (fun h2 => ?_) (fun h2 => ?_) rfl
      · have h3 := un1 h2
        replace H := ift h3 H
        refine seq_g0 rfl rfl h2 (stp_move (.dat _) rfl) ?_
        obtain ⟨x4, h5, H⟩ := bnd H
        refine seq_g0 rfl rfl h2 (t_byte tyU9 rfl rfl h5) ?_
        refine seq_g0 rfl rfl h2 (stp_eql rfl rfl) ?_
        refine seq_g0 rfl rfl h2 (stp_move (.dat _) rfl) ?_
        refine seq_split (j := 7) rfl rfl (fun h6 => ?_) (fun h6 => ?_) rfl
        · have h7 := un3 h6
          replace H := iff_ h7 H
          refine seq_g0 rfl rfl h6 (stp_move (.dat _) rfl) ?_
          refine seq_g0 rfl rfl h6 (t_byte tyU9 rfl rfl h5) ?_
          refine seq_g0 rfl rfl h6 (stp_eql rfl rfl) ?_
          refine seq_g0 rfl rfl h2 (stp_pick_f rfl (bFF h7) rfl) ?_
          refine seq_run0 (stp_pick_t rfl (bTT h3) rfl) ?_
          exact ⟨decide ((x4.toNat : Int) = 43), H, ⟨rfl, rfl, rfl, rfl, trivial⟩, trivial⟩
        · have h8 := un4 h6
          replace H := ift h8 H
          refine seq_skip rfl rfl h6 ?_
          refine seq_skip rfl rfl h6 ?_
          refine seq_skip rfl rfl h6 ?_
          refine seq_g0 rfl rfl h2 (stp_pick_t rfl (bTT h8) rfl) ?_
          refine seq_run0 (stp_pick_t rfl (bTT h3) rfl) ?_
          exact ⟨true, H, ⟨rfl, rfl, rfl, rfl, trivial⟩, trivial⟩
      · have h9 := un2 h2
        replace H := iff_ h9 H
        refine seq_skip rfl rfl h2 ?_
        refine seq_skip rfl rfl h2 ?_
        refine seq_skip rfl rfl h2 ?_
        refine seq_skip rfl rfl h2 ?_
        refine seq_skipU rfl rfl ?_
        refine seq_skipU rfl rfl ?_
        refine seq_skipU rfl rfl ?_
        refine seq_skip rfl rfl h2 ?_
        refine seq_run0 (stp_pick_f rfl (bFF h9) rfl) ?_
        exact ⟨false, H, ⟨rfl, rfl, rfl, rfl, trivial⟩, trivial⟩
    · rintro v10 H
      replace H : internal_strconv_underscoreOK_J2 v1 v10 = some r := H
      unfold internal_strconv_underscoreOK_J2 at H
      refine awp_cond _ rfl (fun h11 => ?_) (fun h11 => ?_)
      · replace H := ift h11 H
        refine awp_plain hN rfl ?_
        refine seq_run0 (stp_move (.dat _) rfl) ?_
        obtain ⟨l12, h13, H⟩ := bnd H
        refine seq_run0 (t_subS tyU9 rfl rfl rfl h13) ?_
        refine seq_run0 (stp_assign (.dat _) rfl) ?_
        exact ⟨l12, H, ⟨rfl, rfl, rfl, trivial⟩, trivial⟩
      · replace H := iff_ h11 H
        refine awp_skip ?_
        exact ⟨v1, H, ⟨rfl, rfl, rfl, trivial⟩, trivial⟩
  · rintro v14 H
    replace H : internal_strconv_underscoreOK_J1 v14 = some r := H
    unfold internal_strconv_underscoreOK_J1 at H
    refine awp_seq ?_
    refine awp_plain hN rfl ?_
    refine seq_run0 (stp_assign (.dat _) rfl) ?_
    refine awp_joinE (ι := Int × Int × Bool) (fun i => [(0, .dat (vstr v14)), (3, .dat (vval (.int .i32 i.1))), (4, .dat (vint i.2.1)), (5, .dat (vbool i.2.2))]) (fun i => []) (fun i => internal_strconv_underscoreOK_J3 v14 i.1 i.2.1 i.2.2 = some r) (fun i => rfl) ?_ ?_
    · skip
      refine awp_joinE (ι := Bool) (fun i => [(0, .dat (vstr v14)), (3, .dat (vval (.int .i32 94))), (4, .dat (vint 0)), (5, .dat (vbool false)), (46, .dat (vbool i))]) (fun i => []) (fun i => internal_strconv_underscoreOK_J4 v14 i = some r) (fun i => rfl) ?_ ?_
      · skip
        refine awp_plain hN rfl ?_
        refine seq_run0 (stp_move (.dat _) rfl) ?_
        refine seq_run0 (stp_len_str tyU9 rfl) ?_
        refine seq_run0 (stp_geq rfl rfl) ?_
        refine seq_run0 (stp_move (.dat _) rfl) ?_
        refine seq_split (j := 3) rfl rfl (fun h15 => ?_) (fun h15 => ?_) rfl
        · have h16 := un1 h15
          replace H := ift h16 H
          refine seq_g0 rfl rfl h15 (stp_move (.dat _) rfl) ?_
          obtain ⟨x17, h18, H⟩ := bnd H
          refine seq_g0 rfl rfl h15 (t_byte tyU9 rfl rfl h18) ?_
          refine seq_g0 rfl rfl h15 (stp_eql rfl rfl) ?_
          refine seq_run0 (stp_pick_t rfl (bTT h16) rfl) ?_
          refine seq_run0 (stp_move (.dat _) rfl) ?_
          refine seq_split (j := 8) rfl rfl (fun h19 => ?_) (fun h19 => ?_) rfl
          · have h20 := un1 h19
            replace H := ift h20 H
            refine seq_g0 rfl rfl h19 (stp_move (.dat _) rfl) ?_
            obtain ⟨x21, h22, H⟩ := bnd H
            refine seq_g0 rfl rfl h19 (t_byte tyU9 rfl rfl h22) ?_
            obtain ⟨r23, h24, H⟩ := bnd H
            refine seq_g0 rfl rfl h19 (stp_call (k_internal_strconv_lower (x21.toNat : Int) r23 h24) ⟨.inl rfl, trivial⟩) ?_
            refine seq_g0 rfl rfl h19 (stp_eql rfl rfl) ?_
            refine seq_g0 rfl rfl h19 (stp_move (.dat _) rfl) ?_
            refine seq_split (j := 13) rfl rfl (fun h25 => ?_) (fun h25 => ?_) rfl
            · have h26 := un3 h25
              replace H := iff_ h26 H
              refine seq_g0 rfl rfl h25 (stp_move (.dat _) rfl) ?_
              refine seq_g0 rfl rfl h25 (t_byte tyU9 rfl rfl h22) ?_
              obtain ⟨r27, h28, H⟩ := bnd H
              refine seq_g0 rfl rfl h25 (stp_call (k_internal_strconv_lower (x21.toNat : Int) r27 h28) ⟨.inl rfl, trivial⟩) ?_
              refine seq_g0 rfl rfl h25 (stp_eql rfl rfl) ?_
              refine seq_g0 rfl rfl h19 (stp_pick_f rfl (bFF h26) rfl) ?_
              refine seq_g0 rfl rfl h19 (stp_move (.dat _) rfl) ?_
              refine seq_split (j := 19) rfl rfl (fun h29 => ?_) (fun h29 => ?_) rfl
              · have h30 := un3 h29
                replace H := iff_ h30 H
                refine seq_g0 rfl rfl h29 (stp_move (.dat _) rfl) ?_
                refine seq_g0 rfl rfl h29 (t_byte tyU9 rfl rfl h22) ?_
                obtain ⟨r31, h32, H⟩ := bnd H
                refine seq_g0 rfl rfl h29 (stp_call (k_internal_strconv_lower (x21.toNat : Int) r31 h32) ⟨.inl rfl, trivial⟩) ?_
                refine seq_g0 rfl rfl h29 (stp_eql rfl rfl) ?_
                refine seq_g0 rfl rfl h19 (stp_pick_f rfl (bFF h30) rfl) ?_
                refine seq_run0 (stp_pick_t rfl (bTT h20) rfl) ?_
                exact ⟨decide (r31 = 120), H, ⟨rfl, rfl, rfl, rfl, rfl, trivial⟩, trivial⟩
              · have h33 := un4 h29
                replace H := ift h33 H
                refine seq_skip rfl rfl h29 ?_
                refine seq_skip rfl rfl h29 ?_
                refine seq_skip rfl rfl h29 ?_
                refine seq_skip rfl rfl h29 ?_
                refine seq_g0 rfl rfl h19 (stp_pick_t rfl (bTT h33) rfl) ?_
                refine seq_run0 (stp_pick_t rfl (bTT h20) rfl) ?_
                exact ⟨true, H, ⟨rfl, rfl, rfl, rfl, rfl, trivial⟩, trivial⟩
            · have h34 := un4 h25
              replace H := ift h34 H
              refine seq_skip rfl rfl h25 ?_
              refine seq_skip rfl rfl h25 ?_
              refine seq_skip rfl rfl h25 ?_
              refine seq_skip rfl rfl h25 ?_
              refine seq_g0 rfl rfl h19 (stp_pick_t rfl (bTT h34) rfl) ?_
              refine seq_g0 rfl rfl h19 (stp_move (.dat _) rfl) ?_
              refine seq_skip rfl rfl rfl ?_
              refine seq_skip rfl rfl rfl ?_
              refine seq_skip rfl rfl rfl ?_
              refine seq_skip rfl rfl rfl ?_
              refine seq_g0 rfl rfl h19 (stp_pick_t rfl rfl rfl) ?_
              refine seq_run0 (stp_pick_t rfl (bTT h20) rfl) ?_
              exact ⟨true, H, ⟨rfl, rfl, rfl, rfl, rfl, trivial⟩, trivial⟩
          · have h35 := un2 h19
            replace H := iff_ h35 H
            refine seq_skip rfl rfl h19 ?_
            refine seq_skip rfl rfl h19 ?_
            refine seq_skip rfl rfl h19 ?_
            refine seq_skip rfl rfl h19 ?_
            refine seq_skip rfl rfl h19 ?_
            refine seq_skipU rfl rfl ?_
            refine seq_skipU rfl rfl ?_
            refine seq_skipU rfl rfl ?_
            refine seq_skipU rfl rfl ?_
            refine seq_skip rfl rfl h19 ?_
            refine seq_skip rfl rfl h19 ?_
            refine seq_skipU rfl rfl ?_
            refine seq_skipU rfl rfl ?_
            refine seq_skipU rfl rfl ?_
            refine seq_skipU rfl rfl ?_
            refine seq_skip rfl rfl h19 ?_
            refine seq_run0 (stp_pick_f rfl (bFF h35) rfl) ?_
            exact ⟨false, H, ⟨rfl, rfl, rfl, rfl, rfl, trivial⟩, trivial⟩
        · have h36 := un2 h15
          replace H := iff_ h36 H
          refine seq_skip rfl rfl h15 ?_
          refine seq_skip rfl rfl h15 ?_
          refine seq_skip rfl rfl h15 ?_
          refine seq_run0 (stp_pick_f rfl (bFF h36) rfl) ?_
          refine seq_run0 (stp_move (.dat _) rfl) ?_
          refine seq_skip rfl rfl rfl ?_
          refine seq_skip rfl rfl rfl ?_
          refine seq_skip rfl rfl rfl ?_
          refine seq_skip rfl rfl rfl ?_
          refine seq_skip rfl rfl rfl ?_
          refine seq_skipU rfl rfl ?_
          refine seq_skipU rfl rfl ?_
          refine seq_skipU rfl rfl ?_
          refine seq_skipU rfl rfl ?_
          refine seq_skip rfl rfl rfl ?_
          refine seq_skip rfl rfl rfl ?_
          refine seq_skipU rfl rfl ?_
          refine seq_skipU rfl rfl ?_
          refine seq_skipU rfl rfl ?_
          refine seq_skipU rfl rfl ?_
          refine seq_skip rfl rfl rfl ?_
          refine seq_run0 (stp_pick_f rfl rfl rfl) ?_
          exact ⟨false, H, ⟨rfl, rfl, rfl, rfl, rfl, trivial⟩, trivial⟩
      · rintro v37 H
        replace H : internal_strconv_underscoreOK_J4 v14 v37 = some r := H
        unfold internal_strconv_underscoreOK_J4 at H
        refine awp_cond _ rfl (fun h38 => ?_) (fun h38 => ?_)
        · replace H := ift h38 H
          refine awp_seq ?_
          refine awp_plain hN rfl ?_
          refine seq_run0 (stp_assign (.dat _) rfl) ?_
          refine awp_seq ?_
          refine awp_plain hN rfl ?_
          refine seq_run0 (stp_assign (.dat _) rfl) ?_
          refine awp_plain hN rfl ?_
          refine seq_run0 (stp_move (.dat _) rfl) ?_
          obtain ⟨x39, h40, H⟩ := bnd H
          refine seq_run0 (t_byte tyU9 rfl rfl h40) ?_
          obtain ⟨r41, h42, H⟩ := bnd H
          refine seq_run0 (stp_call (k_internal_strconv_lower (x39.toNat : Int) r41 h42) ⟨.inl rfl, trivial⟩) ?_
          refine seq_run0 (stp_eql rfl rfl) ?_
          refine seq_run0 (stp_assign (.dat _) rfl) ?_
          exact ⟨(48, 2, decide (r41 = 120)), H, ⟨rfl, rfl, rfl, rfl, trivial⟩, trivial⟩
        · replace H := iff_ h38 H
          refine awp_skip ?_
          exact ⟨(94, 0, false), H, ⟨rfl, rfl, rfl, rfl, trivial⟩, trivial⟩
    · rintro ⟨v43, v44, v45⟩ H
      replace H : internal_strconv_underscoreOK_J3 v14 v43 v44 v45 = some r := H
      unfold internal_strconv_underscoreOK_J3 at H
      refine awp_joinE (ι := Int) (fun i => [(3, .dat (vval (.int .i32 i)))]) (fun i => []) (fun i => internal_strconv_underscoreOK_J5 i = some r) (fun i => rfl) ?_ ?_
      · skip
        refine awp_block ?_
        refine awp_iter (fun (s : Int × Int) => [(0, .dat (vstr v14)), (3, .dat (vval (.int .i32 s.1))), (4, .dat (vint s.2)), (5, .dat (vbool v45))]) (fun (s : Int × Int) => []) (v43, v44) H ⟨rfl, rfl, rfl, rfl, trivial⟩ trivial (fun _ => rfl) ?_
        rintro ⟨v46, v47⟩ q48 H hq48
        replace H : internal_strconv_underscoreOK_L6 v14 v45 v46 v47 = some q48 := H
        unfold internal_strconv_underscoreOK_L6 at H
        refine awp_seq ?_
        refine awp_seq ?_
        refine awp_plain hN rfl ?_
        refine seq_run0 (stp_move (.dat _) rfl) ?_
        refine seq_run0 (stp_move (.dat _) rfl) ?_
        refine seq_run0 (stp_len_str tyU9 rfl) ?_
        refine seq_run0 (stp_lss rfl rfl) ?_
        refine awp_cond _ rfl (fun h49 => ?_) (fun h49 => ?_)
        · replace H := ift h49 H
          refine awp_skip ?_
          refine awp_joinE (ι := Int) (fun i => [(0, .dat (vstr v14)), (3, .dat (vval (.int .i32 i))), (4, .dat (vint v47)), (5, .dat (vbool v45))]) (fun i => []) (fun i => internal_strconv_underscoreOK_J7 v47 i = some q48) (fun i => rfl) ?_ ?_
          · skip
            refine awp_block ?_
            refine awp_seq ?_
            refine awp_joinE (ι := Bool) (fun i => [(0, .dat (vstr v14)), (3, .dat (vval (.int .i32 v46))), (4, .dat (vint v47)), (5, .dat (vbool v45)), (83, .dat (vbool i))]) (fun i => []) (fun i => internal_strconv_underscoreOK_J8 v14 v46 v47 i = some q48) (fun i => rfl) ?_ ?_
            · skip
              refine awp_plain hN rfl ?_
              refine seq_run0 (stp_move (.dat _) rfl) ?_
              refine seq_run0 (stp_move (.dat _) rfl) ?_
              obtain ⟨x50, h51, H⟩ := bnd H
              refine seq_run0 (t_byteI tyU9 rfl rfl h51) ?_
              refine seq_run0 (stp_leq rfl rfl) ?_
              refine seq_run0 (stp_move (.dat _) rfl) ?_
              refine seq_split (j := 4) rfl rfl (fun h52 => ?_) (fun h52 => ?_) rfl
              · have h53 := un1 h52
                replace H := ift h53 H
                refine seq_g0 rfl rfl h52 (stp_move (.dat _) rfl) ?_
                refine seq_g0 rfl rfl h52 (stp_move (.dat _) rfl) ?_
                refine seq_g0 rfl rfl h52 (t_byteI tyU9 rfl rfl h51) ?_
                refine seq_g0 rfl rfl h52 (stp_leq rfl rfl) ?_
                refine seq_run0 (stp_pick_t rfl (bTT h53) rfl) ?_
                refine seq_run0 (stp_move (.dat _) rfl) ?_
                refine seq_split (j := 10) rfl rfl (fun h54 => ?_) (fun h54 => ?_) rfl
                · have h55 := un3 h54
                  replace H := iff_ h55 H
                  refine seq_g0 rfl rfl h54 (stp_move (.dat _) rfl) ?_
                  refine seq_g0 rfl rfl h54 (stp_move (.dat _) rfl) ?_
                  refine seq_split (j := 12) rfl rfl (fun h56 => ?_) (fun h56 => ?_) rfl
                  · have h57 := un1 h56
                    replace H := ift h57 H
                    refine seq_g0 rfl rfl h56 (stp_move (.dat _) rfl) ?_
                    refine seq_g0 rfl rfl h56 (stp_move (.dat _) rfl) ?_
                    refine seq_g0 rfl rfl h56 (t_byteI tyU9 rfl rfl h51) ?_
                    obtain ⟨r58, h59, H⟩ := bnd H
                    refine seq_g0 rfl rfl h56 (stp_call (k_internal_strconv_lower (x50.toNat : Int) r58 h59) ⟨.inl rfl, trivial⟩) ?_
                    refine seq_g0 rfl rfl h56 (stp_leq rfl rfl) ?_
                    refine seq_g0 rfl rfl h54 (stp_pick_t rfl (bTT h57) rfl) ?_
                    refine seq_g0 rfl rfl h54 (stp_move (.dat _) rfl) ?_
                    refine seq_split (j := 19) rfl rfl (fun h60 => ?_) (fun h60 => ?_) rfl
                    · have h61 := un1 h60
                      replace H := ift h61 H
                      refine seq_g0 rfl rfl h60 (stp_move (.dat _) rfl) ?_
                      refine seq_g0 rfl rfl h60 (stp_move (.dat _) rfl) ?_
                      refine seq_g0 rfl rfl h60 (t_byteI tyU9 rfl rfl h51) ?_
                      obtain ⟨r62, h63, H⟩ := bnd H
                      refine seq_g0 rfl rfl h60 (stp_call (k_internal_strconv_lower (x50.toNat : Int) r62 h63) ⟨.inl rfl, trivial⟩) ?_
                      refine seq_g0 rfl rfl h60 (stp_leq rfl rfl) ?_
                      refine seq_g0 rfl rfl h54 (stp_pick_t rfl (bTT h61) rfl) ?_
                      refine seq_run0 (stp_pick_f rfl (bFF h55) rfl) ?_
                      exact ⟨decide (r62 ≤ 102), H, ⟨rfl, rfl, rfl, rfl, rfl, trivial⟩, trivial⟩
                    · have h64 := un2 h60
                      replace H := iff_ h64 H
                      refine seq_skip rfl rfl h60 ?_
                      refine seq_skip rfl rfl h60 ?_
                      refine seq_skip rfl rfl h60 ?_
                      refine seq_skip rfl rfl h60 ?_
                      refine seq_skip rfl rfl h60 ?_
                      refine seq_g0 rfl rfl h54 (stp_pick_f rfl (bFF h64) rfl) ?_
                      refine seq_run0 (stp_pick_f rfl (bFF h55) rfl) ?_
                      exact ⟨false, H, ⟨rfl, rfl, rfl, rfl, rfl, trivial⟩, trivial⟩
                  · have h65 := un2 h56
                    replace H := iff_ h65 H
                    refine seq_skip rfl rfl h56 ?_
                    refine seq_skip rfl rfl h56 ?_
                    refine seq_skip rfl rfl h56 ?_
                    refine seq_skip rfl rfl h56 ?_
                    refine seq_skip rfl rfl h56 ?_
                    refine seq_g0 rfl rfl h54 (stp_pick_f rfl (bFF h65) rfl) ?_
                    refine seq_g0 rfl rfl h54 (stp_move (.dat _) rfl) ?_
                    refine seq_skip rfl rfl rfl ?_
                    refine seq_skip rfl rfl rfl ?_
                    refine seq_skip rfl rfl rfl ?_
                    refine seq_skip rfl rfl rfl ?_
                    refine seq_skip rfl rfl rfl ?_
                    refine seq_g0 rfl rfl h54 (stp_pick_f rfl rfl rfl) ?_
                    refine seq_run0 (stp_pick_f rfl (bFF h55) rfl) ?_
                    exact ⟨false, H, ⟨rfl, rfl, rfl, rfl, rfl, trivial⟩, trivial⟩
                · have h66 := un4 h54
                  replace H := ift h66 H
                  refine seq_skip rfl rfl h54 ?_
                  refine seq_skip rfl rfl h54 ?_
                  refine seq_skipU rfl rfl ?_
                  refine seq_skipU rfl rfl ?_
                  refine seq_skipU rfl rfl ?_
                  refine seq_skipU rfl rfl ?_
                  refine seq_skipU rfl rfl ?_
                  refine seq_skip rfl rfl h54 ?_
                  refine seq_skip rfl rfl h54 ?_
                  refine seq_skipU rfl rfl ?_
                  refine seq_skipU rfl rfl ?_
                  refine seq_skipU rfl rfl ?_
                  refine seq_skipU rfl rfl ?_
                  refine seq_skipU rfl rfl ?_
                  refine seq_skip rfl rfl h54 ?_
                  refine seq_run0 (stp_pick_t rfl (bTT h66) rfl) ?_
                  exact ⟨true, H, ⟨rfl, rfl, rfl, rfl, rfl, trivial⟩, trivial⟩
              · have h67 := un2 h52
                replace H := iff_ h67 H
                refine seq_skip rfl rfl h52 ?_
                refine seq_skip rfl rfl h52 ?_
                refine seq_skip rfl rfl h52 ?_
                refine seq_skip rfl rfl h52 ?_
                refine seq_run0 (stp_pick_f rfl (bFF h67) rfl) ?_
                refine seq_run0 (stp_move (.dat _) rfl) ?_
                refine seq_g0 rfl rfl rfl (stp_move (.dat _) rfl) ?_
                refine seq_g0 rfl rfl rfl (stp_move (.dat _) rfl) ?_
                refine seq_split (j := 12) rfl rfl (fun h68 => ?_) (fun h68 => ?_) rfl
                · have h69 := un1 h68
                  replace H := ift h69 H
                  refine seq_g0 rfl rfl h68 (stp_move (.dat _) rfl) ?_
                  refine seq_g0 rfl rfl h68 (stp_move (.dat _) rfl) ?_
                  refine seq_g0 rfl rfl h68 (t_byteI tyU9 rfl rfl h51) ?_
                  obtain ⟨r70, h71, H⟩ := bnd H
                  refine seq_g0 rfl rfl h68 (stp_call (k_internal_strconv_lower (x50.toNat : Int) r70 h71) ⟨.inl rfl, trivial⟩) ?_
                  refine seq_g0 rfl rfl h68 (stp_leq rfl rfl) ?_
                  refine seq_g0 rfl rfl rfl (stp_pick_t rfl (bTT h69) rfl) ?_
                  refine seq_g0 rfl rfl rfl (stp_move (.dat _) rfl) ?_
                  refine seq_split (j := 19) rfl rfl (fun h72 => ?_) (fun h72 => ?_) rfl
                  · have h73 := un1 h72
                    replace H := ift h73 H
                    refine seq_g0 rfl rfl h72 (stp_move (.dat _) rfl) ?_
                    refine seq_g0 rfl rfl h72 (stp_move (.dat _) rfl) ?_
                    refine seq_g0 rfl rfl h72 (t_byteI tyU9 rfl rfl h51) ?_
                    obtain ⟨r74, h75, H⟩ := bnd H
                    refine seq_g0 rfl rfl h72 (stp_call (k_internal_strconv_lower (x50.toNat : Int) r74 h75) ⟨.inl rfl, trivial⟩) ?_
                    refine seq_g0 rfl rfl h72 (stp_leq rfl rfl) ?_
                    refine seq_g0 rfl rfl rfl (stp_pick_t rfl (bTT h73) rfl) ?_
                    refine seq_run0 (stp_pick_f rfl rfl rfl) ?_
                    exact ⟨decide (r74 ≤ 102), H, ⟨rfl, rfl, rfl, rfl, rfl, trivial⟩, trivial⟩
                  · have h76 := un2 h72
                    replace H := iff_ h76 H
                    refine seq_skip rfl rfl h72 ?_
                    refine seq_skip rfl rfl h72 ?_
                    refine seq_skip rfl rfl h72 ?_
                    refine seq_skip rfl rfl h72 ?_
                    refine seq_skip rfl rfl h72 ?_
                    refine seq_g0 rfl rfl rfl (stp_pick_f rfl (bFF h76) rfl) ?_
                    refine seq_run0 (stp_pick_f rfl rfl rfl) ?_
                    exact ⟨false, H, ⟨rfl, rfl, rfl, rfl, rfl, trivial⟩, trivial⟩
                · have h77 := un2 h68
                  replace H := iff_ h77 H
                  refine seq_skip rfl rfl h68 ?_
                  refine seq_skip rfl rfl h68 ?_
                  refine seq_skip rfl rfl h68 ?_
                  refine seq_skip rfl rfl h68 ?_
                  refine seq_skip rfl rfl h68 ?_
                  refine seq_g0 rfl rfl rfl (stp_pick_f rfl (bFF h77) rfl) ?_
                  refine seq_g0 rfl rfl rfl (stp_move (.dat _) rfl) ?_
                  refine seq_skip rfl rfl rfl ?_
                  refine seq_skip rfl rfl rfl ?_
                  refine seq_skip rfl rfl rfl ?_
                  refine seq_skip rfl rfl rfl ?_
                  refine seq_skip rfl rfl rfl ?_
                  refine seq_g0 rfl rfl rfl (stp_pick_f rfl rfl rfl) ?_
                  refine seq_run0 (stp_pick_f rfl rfl rfl) ?_
                  exact ⟨false, H, ⟨rfl, rfl, rfl, rfl, rfl, trivial⟩, trivial⟩
            · rintro v78 H
              replace H : internal_strconv_underscoreOK_J8 v14 v46 v47 v78 = some q48 := H
              unfold internal_strconv_underscoreOK_J8 at H
              refine awp_cond _ rfl (fun h79 => ?_) (fun h79 => ?_)
              · replace H := ift h79 H
                refine awp_seq ?_
                refine awp_plain hN rfl ?_
                refine seq_run0 (stp_assign (.dat _) rfl) ?_
                refine awp_exit ?_
                exact ⟨48, H, ⟨rfl, rfl, rfl, rfl, trivial⟩, trivial⟩
              · replace H := iff_ h79 H
                refine awp_skip ?_
                refine awp_seq ?_
                refine awp_seq ?_
                refine awp_plain hN rfl ?_
                refine seq_run0 (stp_move (.dat _) rfl) ?_
                refine seq_run0 (stp_move (.dat _) rfl) ?_
                obtain ⟨x80, h81, H⟩ := bnd H
                refine seq_run0 (t_byteI tyU9 rfl rfl h81) ?_
                refine seq_run0 (stp_eql rfl rfl) ?_
                refine awp_cond _ rfl (fun h82 => ?_) (fun h82 => ?_)
                · replace H := ift h82 H
                  refine awp_seq ?_
                  refine awp_seq ?_
                  refine awp_plain hN rfl ?_
                  refine seq_run0 (stp_move (.dat _) rfl) ?_
                  refine seq_run0 (stp_neq rfl rfl) ?_
                  refine awp_cond _ rfl (fun h83 => ?_) (fun h83 => ?_)
                  · replace H := ift h83 H
                    refine awp_seq ?_
                    refine awp_plain hN rfl ?_
                    refine seq_run0 (stp_assign (.dat _) rfl) ?_
                    refine awp_ret ?_
                    replace H := retl H hq48
                    cases H
                    exact ⟨trivial, .inl rfl, trivial⟩
                  · replace H := iff_ h83 H
                    refine awp_skip ?_
                    refine awp_seq ?_
                    refine awp_plain hN rfl ?_
                    refine seq_run0 (stp_assign (.dat _) rfl) ?_
                    refine awp_exit ?_
                    exact ⟨95, H, ⟨rfl, rfl, rfl, rfl, trivial⟩, trivial⟩
                · replace H := iff_ h82 H
                  refine awp_skip ?_
                  refine awp_seq ?_
                  refine awp_seq ?_
                  refine awp_plain hN rfl ?_
                  refine seq_run0 (stp_move (.dat _) rfl) ?_
                  refine seq_run0 (stp_eql rfl rfl) ?_
                  refine awp_cond _ rfl (fun h84 => ?_) (fun h84 => ?_)
                  · replace H := ift h84 H
                    refine awp_seq ?_
                    refine awp_plain hN rfl ?_
                    refine seq_run0 (stp_assign (.dat _) rfl) ?_
                    refine awp_ret ?_
                    replace H := retl H hq48
                    cases H
                    exact ⟨trivial, .inl rfl, trivial⟩
                  · replace H := iff_ h84 H
                    refine awp_skip ?_
                    refine awp_plain hN rfl ?_
                    refine seq_run0 (stp_assign (.dat _) rfl) ?_
                    exact ⟨33, H, ⟨rfl, rfl, rfl, rfl, trivial⟩, trivial⟩
          · rintro v85 H
            replace H : internal_strconv_underscoreOK_J7 v47 v85 = some q48 := H
            unfold internal_strconv_underscoreOK_J7 at H
            refine awp_plain hN rfl ?_
            refine seq_run0 (stp_move (.dat _) rfl) ?_
            refine seq_run0 (stp_wrap _ rfl rfl (.inl ⟨rfl, rfl⟩)) ?_
            refine seq_run0 (stp_assign (.dat _) rfl) ?_
            exact ⟨_, backl H, ⟨rfl, rfl, rfl, rfl, trivial⟩, trivial⟩
        · replace H := iff_ h49 H
          refine awp_exit ?_
          replace H := outl H hq48
          exact ⟨v46, H, ⟨rfl, trivial⟩, trivial⟩
      · rintro v86 H
        replace H : internal_strconv_underscoreOK_J5 v86 = some r := H
        unfold internal_strconv_underscoreOK_J5 at H
        refine awp_seq ?_
        refine awp_plain hN rfl ?_
        refine seq_run0 (stp_move (.dat _) rfl) ?_
        refine seq_run0 (stp_neq rfl rfl) ?_
        refine seq_run0 (stp_assign (.dat _) rfl) ?_
        refine awp_ret ?_
        cases H
        exact ⟨trivial, .inl rfl, trivial⟩
theorem k_internal_strconv_ParseUint (v1 : Bs) (v2 : Int) (v3 : Int) (r : (Int × Unit)) (H : m_internal_strconv_ParseUint v1 v2 v3 = some r) : Fn Tryd.prog 44 [vstr v1, vint v2, vint v3] (resOf [vval (.int .u64 r.1), vval .nilIface]) := by
  refine ⟨by kernel_rfl, pure_of (us := [vval (.int .u64 r.1), vval .nilIface]) Tryd.func44 rfl rfl rfl rfl fun X hN => ?_⟩
  unfold m_internal_strconv_ParseUint at H
  refine awp_seq ?_
  refine awp_plain hN rfl ?_
  refine seq_run0 (stp_assign (.dat _) rfl) ?_
  refine seq_run0 (stp_assign (.dat _) rfl) ?_
  refine awp_seq ?_
  refine awp_seq ?_
  refine awp_plain hN rfl ?_
  refine seq_run0 (stp_move (.dat _) rfl) ?_
  refine seq_run0 (stp_seql rfl rfl) ?_
  refine awp_cond _ rfl (fun h4 => ?_) (fun h4 => ?_)
  · replace H := ift h4 H
    cases H
  · replace H := iff_ h4 H
    refine awp_skip ?_
    refine awp_seq ?_
    refine awp_plain hN rfl ?_
    refine seq_run0 (stp_move (.dat _) rfl) ?_
    refine seq_run0 (stp_eql rfl rfl) ?_
    refine seq_run0 (stp_assign (.dat _) rfl) ?_
    refine awp_seq ?_
    refine awp_plain hN rfl ?_
    refine seq_run0 (stp_move (.dat _) rfl) ?_
    refine seq_run0 (stp_assign (.dat _) rfl) ?_
    refine awp_joinE (ι := Bs × Int) (fun i => [(0, .dat (vstr i.1)), (1, .dat (vint i.2)), (2, .dat (vint v3)), (8, .dat (vbool (decide (v2 = 0)))), (9, .dat (vstr v1))]) (fun i => []) (fun i => internal_strconv_ParseUint_J1 v1 v2 v3 i.1 i.2 = some r) (fun i => rfl) ?_ ?_
    · skip
      refine awp_block ?_
      refine awp_seq ?_
      refine awp_plain hN rfl ?_
      refine seq_run0 (stp_move (.dat _) rfl) ?_
      refine seq_run0 (stp_leq rfl rfl) ?_
      refine seq_run0 (stp_move (.dat _) rfl) ?_
      refine seq_aT rfl rfl (fun hc => stp_move (.dat _) rfl) ?_
      refine seq_aT rfl rfl (fun hc => stp_leq (cnd (c := (decide (2 ≤ v2))) hc) rfl) ?_
      refine seq_run0 (stp_pick_and rfl (fun hb => (cnd (c := (decide (2 ≤ v2))) hb)) rfl) ?_
      refine seq_run0 (stp_assign (.dat _) rfl) ?_
      refine awp_cond _ rfl (fun h5 => ?_) (fun h5 => ?_)
      · replace H := ift h5 H
        refine awp_skip ?_
        exact ⟨(v1, v2), H, ⟨rfl, rfl, rfl, rfl, rfl, trivial⟩, trivial⟩
      · replace H := iff_ h5 H
        refine awp_seq ?_
        refine awp_plain hN rfl ?_
        refine seq_run0 (stp_move (.dat _) rfl) ?_
        refine seq_run0 (stp_eql rfl rfl) ?_
        refine seq_run0 (stp_assign (.dat _) rfl) ?_
        refine awp_cond _ rfl (fun h6 => ?_) (fun h6 => ?_)
        · replace H := ift h6 H
          refine awp_seq ?_
          refine awp_plain hN rfl ?_
          refine seq_run0 (stp_assign (.dat _) rfl) ?_
          refine awp_seq ?_
          refine awp_plain hN rfl ?_
          refine seq_run0 (stp_move (.dat _) rfl) ?_
          obtain ⟨x7, h8, H⟩ := bnd H
          refine seq_run0 (t_byte tyU9 rfl rfl h8) ?_
          refine seq_run0 (stp_eql rfl rfl) ?_
          refine awp_cond _ rfl (fun h9 => ?_) (fun h9 => ?_)
          · replace H := ift h9 H
            refine awp_block ?_
            refine awp_joinE (ι := Bool) (fun i => [(0, .dat (vstr v1)), (2, .dat (vint v3)), (8, .dat (vbool (decide (v2 = 0)))), (9, .dat (vstr v1)), (40, .dat (vbool i))]) (fun i => []) (fun i => internal_strconv_ParseUint_J2 v1 v2 v3 i = some r) (fun i => rfl) ?_ ?_
            · skip
              refine awp_plain hN rfl ?_
              refine seq_run0 (stp_move (.dat _) rfl) ?_
              refine seq_run0 (stp_len_str tyU9 rfl) ?_
              refine seq_run0 (stp_geq rfl rfl) ?_
              refine seq_run0 (stp_move (.dat _) rfl) ?_
              refine seq_split (j := 3) rfl rfl (fun h10 => ?_) (fun h10 => ?_) rfl
              · have h11 := un1 h10
                replace H := ift h11 H
                refine seq_g0 rfl rfl h10 (stp_move (.dat _) rfl) ?_
                obtain ⟨x12, h13, H⟩ := bnd H
                refine seq_g0 rfl rfl h10 (t_byte tyU9 rfl rfl h13) ?_
                obtain ⟨r14, h15, H⟩ := bnd H
                refine seq_g0 rfl rfl h10 (stp_call (k_internal_strconv_lower (x12.toNat : Int) r14 h15) ⟨.inl rfl, trivial⟩) ?_
                refine seq_g0 rfl rfl h10 (stp_eql rfl rfl) ?_
                refine seq_run0 (stp_pick_t rfl (bTT h11) rfl) ?_
                refine seq_run0 (stp_assign (.dat _) rfl) ?_
                exact ⟨decide (r14 = 98), H, ⟨rfl, rfl, rfl, rfl, rfl, trivial⟩, trivial⟩
              · have h16 := un2 h10
                replace H := iff_ h16 H
                refine seq_skip rfl rfl h10 ?_
                refine seq_skip rfl rfl h10 ?_
                refine seq_skip rfl rfl h10 ?_
                refine seq_skip rfl rfl h10 ?_
                refine seq_run0 (stp_pick_f rfl (bFF h16) rfl) ?_
                refine seq_run0 (stp_assign (.dat _) rfl) ?_
                exact ⟨false, H, ⟨rfl, rfl, rfl, rfl, rfl, trivial⟩, trivial⟩
            · rintro v17 H
              replace H : internal_strconv_ParseUint_J2 v1 v2 v3 v17 = some r := H
              unfold internal_strconv_ParseUint_J2 at H
              refine awp_cond _ rfl (fun h18 => ?_) (fun h18 => ?_)
              · replace H := ift h18 H
                refine awp_seq ?_
                refine awp_plain hN rfl ?_
                refine seq_run0 (stp_assign (.dat _) rfl) ?_
                refine awp_plain hN rfl ?_
                refine seq_run0 (stp_move (.dat _) rfl) ?_
                obtain ⟨l19, h20, H⟩ := bnd H
                refine seq_run0 (t_subS tyU9 rfl rfl rfl h20) ?_
                refine seq_run0 (stp_assign (.dat _) rfl) ?_
                exact ⟨(l19, 2), H, ⟨rfl, rfl, rfl, rfl, rfl, trivial⟩, trivial⟩
              · replace H := iff_ h18 H
                refine awp_joinE (ι := Bool) (fun i => [(0, .dat (vstr v1)), (2, .dat (vint v3)), (8, .dat (vbool (decide (v2 = 0)))), (9, .dat (vstr v1)), (52, .dat (vbool i))]) (fun i => []) (fun i => internal_strconv_ParseUint_J3 v1 v2 v3 i = some r) (fun i => rfl) ?_ ?_
                · skip
                  refine awp_plain hN rfl ?_
                  refine seq_run0 (stp_move (.dat _) rfl) ?_
                  refine seq_run0 (stp_len_str tyU9 rfl) ?_
                  refine seq_run0 (stp_geq rfl rfl) ?_
                  refine seq_run0 (stp_move (.dat _) rfl) ?_
                  refine seq_split (j := 3) rfl rfl (fun h21 => ?_) (fun h21 => ?_) rfl
                  · have h22 := un1 h21
                    replace H := ift h22 H
                    refine seq_g0 rfl rfl h21 (stp_move (.dat _) rfl) ?_
                    obtain ⟨x23, h24, H⟩ := bnd H
                    refine seq_g0 rfl rfl h21 (t_byte tyU9 rfl rfl h24) ?_
                    obtain ⟨r25, h26, H⟩ := bnd H
                    refine seq_g0 rfl rfl h21 (stp_call (k_internal_strconv_lower (x23.toNat : Int) r25 h26) ⟨.inl rfl, trivial⟩) ?_
                    refine seq_g0 rfl rfl h21 (stp_eql rfl rfl) ?_
                    refine seq_run0 (stp_pick_t rfl (bTT h22) rfl) ?_
                    refine seq_run0 (stp_assign (.dat _) rfl) ?_
                    exact ⟨decide (r25 = 111), H, ⟨rfl, rfl, rfl, rfl, rfl, trivial⟩, trivial⟩
                  · have h27 := un2 h21
                    replace H := iff_ h27 H
                    refine seq_skip rfl rfl h21 ?_
                    refine seq_skip rfl rfl h21 ?_
                    refine seq_skip rfl rfl h21 ?_
                    refine seq_skip rfl rfl h21 ?_
                    refine seq_run0 (stp_pick_f rfl (bFF h27) rfl) ?_
                    refine seq_run0 (stp_assign (.dat _) rfl) ?_
                    exact ⟨false, H, ⟨rfl, rfl, rfl, rfl, rfl, trivial⟩, trivial⟩
                · rintro v28 H
                  replace H : internal_strconv_ParseUint_J3 v1 v2 v3 v28 = some r := H
                  unfold internal_strconv_ParseUint_J3 at H
                  refine awp_cond _ rfl (fun h29 => ?_) (fun h29 => ?_)
                  · replace H := ift h29 H
                    refine awp_seq ?_
                    refine awp_plain hN rfl ?_
                    refine seq_run0 (stp_assign (.dat _) rfl) ?_
                    refine awp_plain hN rfl ?_
                    refine seq_run0 (stp_move (.dat _) rfl) ?_
                    obtain ⟨l30, h31, H⟩ := bnd H
                    refine seq_run0 (t_subS tyU9 rfl rfl rfl h31) ?_
                    refine seq_run0 (stp_assign (.dat _) rfl) ?_
                    exact ⟨(l30, 8), H, ⟨rfl, rfl, rfl, rfl, rfl, trivial⟩, trivial⟩
                  · replace H := iff_ h29 H
                    refine awp_joinE (ι := Bool) (fun i => [(0, .dat (vstr v1)), (2, .dat (vint v3)), (8, .dat (vbool (decide (v2 = 0)))), (9, .dat (vstr v1)), (64, .dat (vbool i))]) (fun i => []) (fun i => internal_strconv_ParseUint_J4 v1 v2 v3 i = some r) (fun i => rfl) ?_ ?_
                    · skip
                      refine awp_plain hN rfl ?_
                      refine seq_run0 (stp_move (.dat _) rfl) ?_
                      refine seq_run0 (stp_len_str tyU9 rfl) ?_
                      refine seq_run0 (stp_geq rfl rfl) ?_
                      refine seq_run0 (stp_move (.dat _) rfl) ?_
                      refine seq_split (j := 3) rfl rfl (fun h32 => ?_) (fun h32 => ?_) rfl
                      · have h33 := un1 h32
                        replace H := ift h33 H
                        refine seq_g0 rfl rfl h32 (stp_move (.dat _) rfl) ?_
                        obtain ⟨x34, h35, H⟩ := bnd H
                        refine seq_g0 rfl rfl h32 (t_byte tyU9 rfl rfl h35) ?_
                        obtain ⟨r36, h37, H⟩ := bnd H
                        refine seq_g0 rfl rfl h32 (stp_call (k_internal_strconv_lower (x34.toNat : Int) r36 h37) ⟨.inl rfl, trivial⟩) ?_
                        refine seq_g0 rfl rfl h32 (stp_eql rfl rfl) ?_
                        refine seq_run0 (stp_pick_t rfl (bTT h33) rfl) ?_
                        refine seq_run0 (stp_assign (.dat _) rfl) ?_
                        exact ⟨decide (r36 = 120), H, ⟨rfl, rfl, rfl, rfl, rfl, trivial⟩, trivial⟩
                      · have h38 := un2 h32
                        replace H := iff_ h38 H
                        refine seq_skip rfl rfl h32 ?_
                        refine seq_skip rfl rfl h32 ?_
                        refine seq_skip rfl rfl h32 ?_
                        refine seq_skip rfl rfl h32 ?_
                        refine seq_run0 (stp_pick_f rfl (bFF h38) rfl) ?_
                        refine seq_run0 (stp_assign (.dat _) rfl) ?_
                        exact ⟨false, H, ⟨rfl, rfl, rfl, rfl, rfl, trivial⟩, trivial⟩
                    · rintro v39 H
                      replace H : internal_strconv_ParseUint_J4 v1 v2 v3 v39 = some r := H
                      unfold internal_strconv_ParseUint_J4 at H
                      refine awp_cond _ rfl (fun h40 => ?_) (fun h40 => ?_)
                      · replace H := ift h40 H
                        refine awp_seq ?_
                        refine awp_plain hN rfl ?_
                        refine seq_run0 (stp_assign (.dat _) rfl) ?_
                        refine awp_plain hN rfl ?_
                        refine seq_run0 (stp_move (.dat _) rfl) ?_
                        obtain ⟨l41, h42, H⟩ := bnd H
                        refine seq_run0 (t_subS tyU9 rfl rfl rfl h42) ?_
                        refine seq_run0 (stp_assign (.dat _) rfl) ?_
                        exact ⟨(l41, 16), H, ⟨rfl, rfl, rfl, rfl, rfl, trivial⟩, trivial⟩
                      · replace H := iff_ h40 H
                        refine awp_seq ?_
                        refine awp_plain hN rfl ?_
                        refine seq_run0 (stp_assign (.dat _) rfl) ?_
                        refine awp_plain hN rfl ?_
                        refine seq_run0 (stp_move (.dat _) rfl) ?_
                        obtain ⟨l43, h44, H⟩ := bnd H
                        refine seq_run0 (t_subS tyU9 rfl rfl rfl h44) ?_
                        refine seq_run0 (stp_assign (.dat _) rfl) ?_
                        exact ⟨(l43, 8), H, ⟨rfl, rfl, rfl, rfl, rfl, trivial⟩, trivial⟩
          · replace H := iff_ h9 H
            refine awp_skip ?_
            exact ⟨(v1, 10), H, ⟨rfl, rfl, rfl, rfl, rfl, trivial⟩, trivial⟩
        · replace H := iff_ h6 H
          cases H
    · rintro ⟨v45, v46⟩ H
      replace H : internal_strconv_ParseUint_J1 v1 v2 v3 v45 v46 = some r := H
      unfold internal_strconv_ParseUint_J1 at H
      refine awp_joinE (ι := Int) (fun i => [(0, .dat (vstr v45)), (1, .dat (vint v46)), (2, .dat (vint i)), (8, .dat (vbool (decide (v2 = 0)))), (9, .dat (vstr v1))]) (fun i => []) (fun i => internal_strconv_ParseUint_J5 v1 v2 v45 v46 i = some r) (fun i => rfl) ?_ ?_
      · skip
        refine awp_seq ?_
        refine awp_plain hN rfl ?_
        refine seq_run0 (stp_move (.dat _) rfl) ?_
        refine seq_run0 (stp_eql rfl rfl) ?_
        refine awp_cond _ rfl (fun h47 => ?_) (fun h47 => ?_)
        · replace H := ift h47 H
          refine awp_plain hN rfl ?_
          refine seq_run0 (stp_assign (.dat _) rfl) ?_
          exact ⟨64, H, ⟨rfl, rfl, rfl, rfl, rfl, trivial⟩, trivial⟩
        · replace H := iff_ h47 H
          refine awp_seq ?_
          refine awp_plain hN rfl ?_
          refine seq_run0 (stp_move (.dat _) rfl) ?_
          refine seq_run0 (stp_lss rfl rfl) ?_
          refine seq_run0 (stp_move (.dat _) rfl) ?_
          refine seq_aF rfl rfl (fun hc => stp_move (.dat _) rfl) ?_
          refine seq_aF rfl rfl (fun hc => stp_gtr (cnd (c := (!(decide (v3 < 0)))) hc) rfl) ?_
          refine seq_run0 (stp_pick_or rfl rfl (fun hb => (cnd (c := (!(decide (v3 < 0)))) (notI hb)))) ?_
          refine awp_cond _ rfl (fun h48 => ?_) (fun h48 => ?_)
          · replace H := ift h48 H
            cases H
          · replace H := iff_ h48 H
            refine awp_skip ?_
            exact ⟨v3, H, ⟨rfl, rfl, rfl, rfl, rfl, trivial⟩, trivial⟩
      · rintro v49 H
        replace H : internal_strconv_ParseUint_J5 v1 v2 v45 v46 v49 = some r := H
        unfold internal_strconv_ParseUint_J5 at H
        refine awp_seq ?_
        refine awp_plain hN rfl ?_
        refine seq_run0 (stp_assign (.dat _) rfl) ?_
        refine awp_joinE (ι := Int) (fun i => [(0, .dat (vstr v45)), (1, .dat (vint v46)), (2, .dat (vint v49)), (8, .dat (vbool (decide (v2 = 0)))), (9, .dat (vstr v1)), (10, .dat (vval (.int .u64 i)))]) (fun i => []) (fun i => internal_strconv_ParseUint_J6 v1 v2 v45 v46 v49 i = some r) (fun i => rfl) ?_ ?_
        · skip
          refine awp_seq ?_
          refine awp_plain hN rfl ?_
          refine seq_run0 (stp_move (.dat _) rfl) ?_
          refine awp_block ?_
          refine awp_seq ?_
          refine awp_plain hN rfl ?_
          refine seq_run0 (stp_eql rfl rfl) ?_
          refine seq_run0 (stp_assign (.dat _) rfl) ?_
          refine awp_cond _ rfl (fun h50 => ?_) (fun h50 => ?_)
          · replace H := ift h50 H
            refine awp_plain hN rfl ?_
            refine seq_run0 (stp_assign (.dat _) rfl) ?_
            exact ⟨1844674407370955162, H, ⟨rfl, rfl, rfl, rfl, rfl, rfl, trivial⟩, trivial⟩
          · replace H := iff_ h50 H
            refine awp_seq ?_
            refine awp_plain hN rfl ?_
            refine seq_run0 (stp_eql rfl rfl) ?_
            refine seq_run0 (stp_assign (.dat _) rfl) ?_
            refine awp_cond _ rfl (fun h51 => ?_) (fun h51 => ?_)
            · replace H := ift h51 H
              refine awp_plain hN rfl ?_
              refine seq_run0 (stp_assign (.dat _) rfl) ?_
              exact ⟨1152921504606846976, H, ⟨rfl, rfl, rfl, rfl, rfl, rfl, trivial⟩, trivial⟩
            · replace H := iff_ h51 H
              refine awp_plain hN rfl ?_
              refine seq_run0 (stp_move (.dat _) rfl) ?_
              refine seq_run0 (stp_conv tyU3 tyU50 rfl) ?_
              obtain ⟨h52, H⟩ := gif H
              refine seq_run0 (stp_quoK rfl rfl h52) ?_
              refine seq_run0 (stp_wrap _ rfl rfl (.inl ⟨rfl, rfl⟩)) ?_
              refine seq_run0 (stp_assign (.dat _) rfl) ?_
              exact ⟨IntKind.wrap .u64 ((IntKind.wrap .u64 (Int.tdiv 18446744073709551615 (IntKind.wrap .u64 v46))) + 1), H, ⟨rfl, rfl, rfl, rfl, rfl, rfl, trivial⟩, trivial⟩
        · rintro v53 H
          replace H : internal_strconv_ParseUint_J6 v1 v2 v45 v46 v49 v53 = some r := H
          unfold internal_strconv_ParseUint_J6 at H
          refine awp_seq ?_
          refine awp_plain hN rfl ?_
          refine seq_run0 (stp_move (.dat _) rfl) ?_
          refine seq_run0 (stp_conv tyU3 tyU47 rfl) ?_
          obtain ⟨h54, H⟩ := gif H
          refine seq_run0 (stp_dat (stp_shl rfl rfl h54) rfl) ?_
          refine seq_run0 (stp_wrap _ rfl rfl (.inr (.inl ⟨rfl, rfl⟩))) ?_
          refine seq_run0 (stp_assign (.dat _) rfl) ?_
          refine awp_seq ?_
          refine awp_plain hN rfl ?_
          refine seq_run0 (stp_assign (.dat _) rfl) ?_
          refine awp_seq ?_
          refine awp_plain hN rfl ?_
          refine seq_run0 (stp_assign (.dat _) rfl) ?_
          refine awp_seq ?_
          refine awp_seq ?_
          refine awp_plain hN rfl ?_
          refine seq_run0 (stp_move (.dat _) rfl) ?_
          refine seq_run0 (stp_convS2B (C := C_uint8) tyU9 tyU26 tyU5 (fun _ => rfl) rfl) ?_
          refine seq_run0 (t_len tyU26 rfl) ?_
          refine seq_run0 (stp_move (.dat _) rfl) ?_
          refine awp_block ?_
          obtain ⟨h59, H⟩ := gif H
          refine awp_forL (fun (k57 : Nat) (s : Bool × Int) => [(1, .dat (vint v46)), (8, .dat (vbool (decide (v2 = 0)))), (9, .dat (vstr v1)), (10, .dat (vval (.int .u64 v53))), (11, .dat (vval (.int .u64 (IntKind.wrap .u64 ((shl_ .u64 1 (IntKind.wrap .u64 v49)) - 1))))), (12, .dat (vbool s.1)), (13, .dat (vval (.int .u64 s.2))), (99, .dat (vlst (List.map C_uint8 (numsB v45)))), (100, .dat (vint ((numsB v45).length : Int))), (101, .dat (vint (k57 : Int)))]) (fun (k57 : Nat) (s : Bool × Int) => []) (false, 0) H ⟨rfl, rfl, rfl, rfl, rfl, rfl, rfl, rfl, rfl, rfl, trivial⟩ trivial (fun _ _ => rfl) ?_ ?_
          · rintro ⟨v55, v56⟩ H
            replace H : internal_strconv_ParseUint_E7 v1 v55 v56 = some r := H
            unfold internal_strconv_ParseUint_E7 at H
            refine awp_seq ?_
            refine awp_plain hN rfl ?_
            refine seq_run0 (stp_lss rfl rfl) ?_
            refine awp_seq ?_
            refine awp_cond _ rfl (fun h => (lt_t h).elim) (fun h => ?_)
            refine awp_exit ?_
            refine awp_seq ?_
            refine awp_joinE (ι := Bool) (fun i => [(13, .dat (vval (.int .u64 v56))), (169, .dat (vbool i))]) (fun i => []) (fun i => internal_strconv_ParseUint_J8 v56 i = some r) (fun i => rfl) ?_ ?_
            · skip
              refine awp_plain hN rfl ?_
              refine seq_run0 (stp_move (.dat _) rfl) ?_
              refine seq_run0 (stp_move (.dat _) rfl) ?_
              refine seq_split (j := 1) rfl rfl (fun h61 => ?_) (fun h61 => ?_) rfl
              · have h62 := un1 h61
                replace H := ift h62 H
                refine seq_g0 rfl rfl h61 (stp_move (.dat _) rfl) ?_
                obtain ⟨r63, h64, H⟩ := bnd H
                refine seq_g0 rfl rfl h61 (stp_call (k_internal_strconv_underscoreOK v1 r63 h64) ⟨.inl rfl, trivial⟩) ?_
                refine seq_g0 rfl rfl h61 (stp_not rfl) ?_
                refine seq_run0 (stp_pick_t rfl (bTT h62) rfl) ?_
                exact ⟨!r63, H, ⟨rfl, rfl, trivial⟩, trivial⟩
              · have h65 := un2 h61
                replace H := iff_ h65 H
                refine seq_skip rfl rfl h61 ?_
                refine seq_skip rfl rfl h61 ?_
                refine seq_skip rfl rfl h61 ?_
                refine seq_run0 (stp_pick_f rfl (bFF h65) rfl) ?_
                exact ⟨false, H, ⟨rfl, rfl, trivial⟩, trivial⟩
            · rintro v66 H
              replace H : internal_strconv_ParseUint_J8 v56 v66 = some r := H
              unfold internal_strconv_ParseUint_J8 at H
              refine awp_cond _ rfl (fun h67 => ?_) (fun h67 => ?_)
              · replace H := ift h67 H
                cases H
              · replace H := iff_ h67 H
                refine awp_skip ?_
                refine awp_seq ?_
                refine awp_plain hN rfl ?_
                refine seq_run0 (stp_move (.dat _) rfl) ?_
                refine seq_run0 (stp_assign (.dat _) rfl) ?_
                refine seq_run0 (stp_assign (.dat _) rfl) ?_
                refine awp_ret ?_
                cases H
                exact ⟨trivial, .inl rfl, .inl rfl, trivial⟩
          · rintro k57 x60 ⟨v55, v56⟩ q58 h68 h69 H hq58
            replace H : internal_strconv_ParseUint_L7 v2 v46 v49 v53 k57 x60 v55 v56 = some q58 := H
            unfold internal_strconv_ParseUint_L7 at H
            refine awp_seq ?_
            refine awp_plain hN rfl ?_
            refine seq_run0 (stp_lss rfl rfl) ?_
            refine awp_seq ?_
            refine awp_cond _ rfl (fun h => ?_) (fun h => (lt_f h68 h).elim)
            refine awp_skip ?_
            refine awp_joinE (ι := Bool × Int) (fun i => [(1, .dat (vint v46)), (8, .dat (vbool (decide (v2 = 0)))), (9, .dat (vstr v1)), (10, .dat (vval (.int .u64 v53))), (11, .dat (vval (.int .u64 (IntKind.wrap .u64 ((shl_ .u64 1 (IntKind.wrap .u64 v49)) - 1))))), (12, .dat (vbool i.1)), (13, .dat (vval (.int .u64 i.2))), (99, .dat (vlst (List.map C_uint8 (numsB v45)))), (100, .dat (vint ((numsB v45).length : Int))), (101, .dat (vint (k57 : Int)))]) (fun i => []) (fun i => internal_strconv_ParseUint_J9 i.1 i.2 = some q58) (fun i => rfl) ?_ ?_
            · skip
              refine awp_block ?_
              refine awp_seq ?_
              refine awp_plain hN rfl ?_
              refine seq_run0 (t_idx tyE26 (fun _ => rfl) rfl rfl h69) ?_
              refine seq_run0 (stp_loadE1 tyS5 rfl (map_at h69) rfl) ?_
              refine seq_run0 (stp_assign (.dat _) rfl) ?_
              refine awp_seq ?_
              refine awp_plain hN rfl ?_
              refine seq_run0 (stp_assign (.dat _) rfl) ?_
              refine awp_joinE (ι := Int) (fun i => [(1, .dat (vint v46)), (8, .dat (vbool (decide (v2 = 0)))), (9, .dat (vstr v1)), (10, .dat (vval (.int .u64 v53))), (11, .dat (vval (.int .u64 (IntKind.wrap .u64 ((shl_ .u64 1 (IntKind.wrap .u64 v49)) - 1))))), (12, .dat (vbool v55)), (13, .dat (vval (.int .u64 v56))), (16, .dat (vval (.int .u8 i))), (99, .dat (vlst (List.map C_uint8 (numsB v45)))), (100, .dat (vint ((numsB v45).length : Int))), (101, .dat (vint (k57 : Int)))]) (fun i => []) (fun i => internal_strconv_ParseUint_J10 v46 v49 v53 v55 v56 i = some q58) (fun i => rfl) ?_ ?_
              · skip
                refine awp_block ?_
                refine awp_seq ?_
                refine awp_plain hN rfl ?_
                refine seq_run0 (stp_move (.dat _) rfl) ?_
                refine seq_run0 (stp_eql rfl rfl) ?_
                refine seq_run0 (stp_move (.dat _) rfl) ?_
                refine seq_aT rfl rfl (fun hc => stp_move (.dat _) rfl) ?_
                refine seq_run0 (stp_pick_and rfl (fun hb => (cnd (c := (decide (x60 = 95))) hb)) rfl) ?_
                refine seq_run0 (stp_assign (.dat _) rfl) ?_
                refine awp_cond _ rfl (fun h70 => ?_) (fun h70 => ?_)
                · replace H := ift h70 H
                  refine awp_seq ?_
                  refine awp_plain hN rfl ?_
                  refine seq_run0 (stp_assign (.dat _) rfl) ?_
                  refine awp_exit ?_
                  exact ⟨(true, v56), H, ⟨rfl, rfl, rfl, rfl, rfl, rfl, rfl, rfl, rfl, rfl, trivial⟩, trivial⟩
                · replace H := iff_ h70 H
                  refine awp_seq ?_
                  refine awp_plain hN rfl ?_
                  refine seq_run0 (stp_move (.dat _) rfl) ?_
                  refine seq_run0 (stp_leq rfl rfl) ?_
                  refine seq_run0 (stp_move (.dat _) rfl) ?_
                  refine seq_aT rfl rfl (fun hc => stp_move (.dat _) rfl) ?_
                  refine seq_aT rfl rfl (fun hc => stp_leq (cnd (c := (decide (48 ≤ x60))) hc) rfl) ?_
                  refine seq_run0 (stp_pick_and rfl (fun hb => (cnd (c := (decide (48 ≤ x60))) hb)) rfl) ?_
                  refine seq_run0 (stp_assign (.dat _) rfl) ?_
                  refine awp_cond _ rfl (fun h71 => ?_) (fun h71 => ?_)
                  · replace H := ift h71 H
                    refine awp_plain hN rfl ?_
                    refine seq_run0 (stp_move (.dat _) rfl) ?_
                    refine seq_run0 (stp_wrap _ rfl rfl (.inr (.inl ⟨rfl, rfl⟩))) ?_
                    refine seq_run0 (stp_assign (.dat _) rfl) ?_
                    exact ⟨IntKind.wrap .u8 (x60 - 48), H, ⟨rfl, rfl, rfl, rfl, rfl, rfl, rfl, rfl, rfl, rfl, rfl, trivial⟩, trivial⟩
                  · replace H := iff_ h71 H
                    refine awp_joinE (ι := Bool) (fun i => [(1, .dat (vint v46)), (8, .dat (vbool (decide (v2 = 0)))), (9, .dat (vstr v1)), (10, .dat (vval (.int .u64 v53))), (11, .dat (vval (.int .u64 (IntKind.wrap .u64 ((shl_ .u64 1 (IntKind.wrap .u64 v49)) - 1))))), (12, .dat (vbool v55)), (13, .dat (vval (.int .u64 v56))), (15, .dat (vval (.int .u8 x60))), (99, .dat (vlst (List.map C_uint8 (numsB v45)))), (100, .dat (vint ((numsB v45).length : Int))), (101, .dat (vint (k57 : Int))), (121, .dat (vbool i))]) (fun i => []) (fun i => internal_strconv_ParseUint_J11 v46 v49 v53 v55 v56 x60 i = some q58) (fun i => rfl) ?_ ?_
                    · skip
                      refine awp_plain hN rfl ?_
                      refine seq_run0 (stp_move (.dat _) rfl) ?_
                      obtain ⟨r72, h73, H⟩ := bnd H
                      refine seq_run0 (stp_call (k_internal_strconv_lower x60 r72 h73) ⟨.inl rfl, trivial⟩) ?_
                      refine seq_run0 (stp_leq rfl rfl) ?_
                      refine seq_run0 (stp_move (.dat _) rfl) ?_
                      refine seq_split (j := 3) rfl rfl (fun h74 => ?_) (fun h74 => ?_) rfl
                      · have h75 := un1 h74
                        replace H := ift h75 H
                        refine seq_g0 rfl rfl h74 (stp_move (.dat _) rfl) ?_
                        obtain ⟨r76, h77, H⟩ := bnd H
                        refine seq_g0 rfl rfl h74 (stp_call (k_internal_strconv_lower x60 r76 h77) ⟨.inl rfl, trivial⟩) ?_
                        refine seq_g0 rfl rfl h74 (stp_leq rfl rfl) ?_
                        refine seq_run0 (stp_pick_t rfl (bTT h75) rfl) ?_
                        refine seq_run0 (stp_assign (.dat _) rfl) ?_
                        exact ⟨decide (r76 ≤ 122), H, ⟨rfl, rfl, rfl, rfl, rfl, rfl, rfl, rfl, rfl, rfl, rfl, rfl, trivial⟩, trivial⟩
                      · have h78 := un2 h74
                        replace H := iff_ h78 H
                        refine seq_skip rfl rfl h74 ?_
                        refine seq_skip rfl rfl h74 ?_
                        refine seq_skip rfl rfl h74 ?_
                        refine seq_run0 (stp_pick_f rfl (bFF h78) rfl) ?_
                        refine seq_run0 (stp_assign (.dat _) rfl) ?_
                        exact ⟨false, H, ⟨rfl, rfl, rfl, rfl, rfl, rfl, rfl, rfl, rfl, rfl, rfl, rfl, trivial⟩, trivial⟩
                    · rintro v79 H
                      replace H : internal_strconv_ParseUint_J11 v46 v49 v53 v55 v56 x60 v79 = some q58 := H
                      unfold internal_strconv_ParseUint_J11 at H
                      refine awp_cond _ rfl (fun h80 => ?_) (fun h80 => ?_)
                      · replace H := ift h80 H
                        refine awp_plain hN rfl ?_
                        refine seq_run0 (stp_move (.dat _) rfl) ?_
                        obtain ⟨r81, h82, H⟩ := bnd H
                        refine seq_run0 (stp_call (k_internal_strconv_lower x60 r81 h82) ⟨.inl rfl, trivial⟩) ?_
                        refine seq_run0 (stp_wrap _ rfl rfl (.inr (.inl ⟨rfl, rfl⟩))) ?_
                        refine seq_run0 (stp_wrap _ rfl rfl (.inl ⟨rfl, rfl⟩)) ?_
                        refine seq_run0 (stp_assign (.dat _) rfl) ?_
                        exact ⟨IntKind.wrap .u8 ((IntKind.wrap .u8 (r81 - 97)) + 10), H, ⟨rfl, rfl, rfl, rfl, rfl, rfl, rfl, rfl, rfl, rfl, rfl, trivial⟩, trivial⟩
                      · replace H := iff_ h80 H
                        cases H
              · rintro v83 H
                replace H : internal_strconv_ParseUint_J10 v46 v49 v53 v55 v56 v83 = some q58 := H
                unfold internal_strconv_ParseUint_J10 at H
                refine awp_seq ?_
                refine awp_seq ?_
                refine awp_plain hN rfl ?_
                refine seq_run0 (stp_move (.dat _) rfl) ?_
                refine seq_run0 (stp_move (.dat _) rfl) ?_
                refine seq_run0 (stp_conv tyU3 tyU5 rfl) ?_
                refine seq_run0 (stp_geq rfl rfl) ?_
                refine awp_cond _ rfl (fun h84 => ?_) (fun h84 => ?_)
                · replace H := ift h84 H
                  cases H
                · replace H := iff_ h84 H
                  refine awp_skip ?_
                  refine awp_seq ?_
                  refine awp_seq ?_
                  refine awp_plain hN rfl ?_
                  refine seq_run0 (stp_move (.dat _) rfl) ?_
                  refine seq_run0 (stp_move (.dat _) rfl) ?_
                  refine seq_run0 (stp_geq rfl rfl) ?_
                  refine awp_cond _ rfl (fun h85 => ?_) (fun h85 => ?_)
                  · replace H := ift h85 H
                    cases H
                  · replace H := iff_ h85 H
                    refine awp_skip ?_
                    refine awp_seq ?_
                    refine awp_plain hN rfl ?_
                    refine seq_run0 (stp_move (.dat _) rfl) ?_
                    refine seq_run0 (stp_move (.dat _) rfl) ?_
                    refine seq_run0 (stp_conv tyU3 tyU50 rfl) ?_
                    refine seq_run0 (stp_wrap _ rfl rfl (.inr (.inr ⟨rfl, rfl⟩))) ?_
                    refine seq_run0 (stp_assign (.dat _) rfl) ?_
                    refine awp_seq ?_
                    refine awp_plain hN rfl ?_
                    refine seq_run0 (stp_move (.dat _) rfl) ?_
                    refine seq_run0 (stp_move (.dat _) rfl) ?_
                    refine seq_run0 (stp_conv tyU5 tyU50 rfl) ?_
                    refine seq_run0 (stp_wrap _ rfl rfl (.inl ⟨rfl, rfl⟩)) ?_
                    refine seq_run0 (stp_assign (.dat _) rfl) ?_
                    refine awp_seq ?_
                    refine awp_seq ?_
                    refine awp_plain hN rfl ?_
                    refine seq_run0 (stp_move (.dat _) rfl) ?_
                    refine seq_run0 (stp_move (.dat _) rfl) ?_
                    refine seq_run0 (stp_lss rfl rfl) ?_
                    refine seq_run0 (stp_move (.dat _) rfl) ?_
                    refine seq_aF rfl rfl (fun hc => stp_move (.dat _) rfl) ?_
                    refine seq_aF rfl rfl (fun hc => stp_move (.dat _) rfl) ?_
                    refine seq_aF rfl rfl (fun hc => stp_gtr (cnd (c := (!(decide ((IntKind.wrap .u64 ((IntKind.wrap .u64 (v56 * (IntKind.wrap .u64 v46))) + (IntKind.wrap .u64 v83))) < (IntKind.wrap .u64 (v56 * (IntKind.wrap .u64 v46))))))) hc) (cnd (c := (!(decide ((IntKind.wrap .u64 ((IntKind.wrap .u64 (v56 * (IntKind.wrap .u64 v46))) + (IntKind.wrap .u64 v83))) < (IntKind.wrap .u64 (v56 * (IntKind.wrap .u64 v46))))))) hc)) ?_
                    refine seq_run0 (stp_pick_or rfl rfl (fun hb => (cnd (c := (!(decide ((IntKind.wrap .u64 ((IntKind.wrap .u64 (v56 * (IntKind.wrap .u64 v46))) + (IntKind.wrap .u64 v83))) < (IntKind.wrap .u64 (v56 * (IntKind.wrap .u64 v46))))))) (notI hb)))) ?_
                    refine awp_cond _ rfl (fun h86 => ?_) (fun h86 => ?_)
                    · replace H := ift h86 H
                      cases H
                    · replace H := iff_ h86 H
                      refine awp_skip ?_
                      refine awp_plain hN rfl ?_
                      refine seq_run0 (stp_move (.dat _) rfl) ?_
                      refine seq_run0 (stp_assign (.dat _) rfl) ?_
                      exact ⟨(v55, IntKind.wrap .u64 ((IntKind.wrap .u64 (v56 * (IntKind.wrap .u64 v46))) + (IntKind.wrap .u64 v83))), H, ⟨rfl, rfl, rfl, rfl, rfl, rfl, rfl, rfl, rfl, rfl, trivial⟩, trivial⟩
            · rintro ⟨v87, v88⟩ H
              replace H : internal_strconv_ParseUint_J9 v87 v88 = some q58 := H
              unfold internal_strconv_ParseUint_J9 at H
              refine awp_plain hN rfl ?_
              refine seq_run0 (stp_add rfl rfl (by omega)) ?_
              refine seq_run0 (stp_move (.dat _) rfl) ?_
              exact ⟨_, backl H, ⟨rfl, rfl, rfl, rfl, rfl, rfl, rfl, rfl, rfl, rfl, trivial⟩, trivial⟩
theorem k_internal_strconv_ParseInt (v1 : Bs) (v2 : Int) (v3 : Int) (r : (Int × Unit)) (H : m_internal_strconv_ParseInt v1 v2 v3 = some r) : Fn Tryd.prog 29 [vstr v1, vint v2, vint v3] (resOf [vint r.1, vval .nilIface]) := by
  refine ⟨by kernel_rfl, pure_of (us := [vint r.1, vval .nilIface]) Tryd.func29 rfl rfl rfl rfl fun X hN => ?_⟩
  unfold m_internal_strconv_ParseInt at H
  refine awp_seq ?_
  refine awp_plain hN rfl ?_
  refine seq_run0 (stp_assign (.dat _) rfl) ?_
  refine seq_run0 (stp_assign (.dat _) rfl) ?_
  refine awp_seq ?_
  refine awp_seq ?_
  refine awp_plain hN rfl ?_
  refine seq_run0 (stp_move (.dat _) rfl) ?_
  refine seq_run0 (stp_seql rfl rfl) ?_
  refine awp_cond _ rfl (fun h4 => ?_) (fun h4 => ?_)
  · replace H := ift h4 H
    cases H
  · replace H := iff_ h4 H
    refine awp_skip ?_
    refine awp_seq ?_
    refine awp_plain hN rfl ?_
    refine seq_run0 (stp_assign (.dat _) rfl) ?_
    refine awp_joinE (ι := Bs × Bool) (fun i => [(0, .dat (vstr i.1)), (1, .dat (vint v2)), (2, .dat (vint v3)), (8, .dat (vbool i.2))]) (fun i => []) (fun i => internal_strconv_ParseInt_J1 v2 v3 i.1 i.2 = some r) (fun i => rfl) ?_ ?_
    · skip
      refine awp_seq ?_
      refine awp_plain hN rfl ?_
      refine seq_run0 (stp_move (.dat _) rfl) ?_
      obtain ⟨x5, h6, H⟩ := bnd H
      refine seq_run0 (t_byte tyU9 rfl rfl h6) ?_
      refine awp_block ?_
      refine awp_seq ?_
      refine awp_plain hN rfl ?_
      refine seq_run0 (stp_eql rfl rfl) ?_
      refine seq_run0 (stp_assign (.dat _) rfl) ?_
      refine awp_cond _ rfl (fun h7 => ?_) (fun h7 => ?_)
      · replace H := ift h7 H
        refine awp_plain hN rfl ?_
        refine seq_run0 (stp_move (.dat _) rfl) ?_
        obtain ⟨l8, h9, H⟩ := bnd H
        refine seq_run0 (t_subS tyU9 rfl rfl rfl h9) ?_
        refine seq_run0 (stp_assign (.dat _) rfl) ?_
        exact ⟨(l8, false), H, ⟨rfl, rfl, rfl, rfl, trivial⟩, trivial⟩
      · replace H := iff_ h7 H
        refine awp_seq ?_
        refine awp_plain hN rfl ?_
        refine seq_run0 (stp_eql rfl rfl) ?_
        refine seq_run0 (stp_assign (.dat _) rfl) ?_
        refine awp_cond _ rfl (fun h10 => ?_) (fun h10 => ?_)
        · replace H := ift h10 H
          refine awp_seq ?_
          refine awp_plain hN rfl ?_
          refine seq_run0 (stp_move (.dat _) rfl) ?_
          obtain ⟨l11, h12, H⟩ := bnd H
          refine seq_run0 (t_subS tyU9 rfl rfl rfl h12) ?_
          refine seq_run0 (stp_assign (.dat _) rfl) ?_
          refine awp_plain hN rfl ?_
          refine seq_run0 (stp_assign (.dat _) rfl) ?_
          exact ⟨(l11, true), H, ⟨rfl, rfl, rfl, rfl, trivial⟩, trivial⟩
        · replace H := iff_ h10 H
          refine awp_skip ?_
          exact ⟨(v1, false), H, ⟨rfl, rfl, rfl, rfl, trivial⟩, trivial⟩
    · rintro ⟨v13, v14⟩ H
      replace H : internal_strconv_ParseInt_J1 v2 v3 v13 v14 = some r := H
      unfold internal_strconv_ParseInt_J1 at H
      refine awp_seq ?_
      refine awp_plain hN rfl ?_
      refine seq_run0 (stp_assign (.dat _) rfl) ?_
      refine awp_seq ?_
      refine awp_plain hN rfl ?_
      refine seq_run0 (stp_move (.dat _) rfl) ?_
      refine seq_run0 (stp_move (.dat _) rfl) ?_
      refine seq_run0 (stp_move (.dat _) rfl) ?_
      obtain ⟨r15, h16, H⟩ := bnd H
      refine seq_run0 (stp_call (k_internal_strconv_ParseUint v13 v2 v3 r15 h16) ⟨.inl rfl, .inl rfl, .inl rfl, trivial⟩) ?_
      refine seq_run0 (stp_move (.dat _) rfl) ?_
      refine seq_run0 (stp_ext rfl rfl) ?_
      refine seq_run0 (stp_ext rfl rfl) ?_
      refine seq_run0 (stp_assign (.dat _) rfl) ?_
      refine seq_run0 (stp_assign (.dat _) rfl) ?_
      refine awp_seq ?_
      refine awp_joinE (ι := Unit) (fun i => [(2, .dat (vint v3)), (7, .dat (vval .nilIface)), (8, .dat (vbool v14)), (9, .dat (vval (.int .u64 r15.1))), (38, .dat (vbool false))]) (fun i => []) (fun i => internal_strconv_ParseInt_J2 v3 v14 r15 = some r) (fun i => rfl) ?_ ?_
      · skip
        refine awp_plain hN rfl ?_
        refine seq_run0 (stp_move (.dat _) rfl) ?_
        refine seq_run0 (stp_ifneq (show Tryd.prog.underlying 42 = some (.interface (Tryd.prog.methodsAt 42)) from by kernel_rfl) rfl) ?_
        refine seq_run0 (stp_move (.dat _) rfl) ?_
        refine seq_skip rfl rfl rfl ?_
        refine seq_skip rfl rfl rfl ?_
        refine seq_skip rfl rfl rfl ?_
        refine seq_run0 (stp_pick_f rfl rfl rfl) ?_
        exact ⟨(), H, ⟨rfl, rfl, rfl, rfl, rfl, trivial⟩, trivial⟩
      · rintro ⟨⟩ H
        replace H : internal_strconv_ParseInt_J2 v3 v14 r15 = some r := H
        unfold internal_strconv_ParseInt_J2 at H
        refine awp_cond _ rfl (fun h17 => ?_) (fun h17 => ?_)
        · replace H := ift h17 H
          refine awp_seq ?_
          refine awp_plain hN rfl ?_
          refine seq_run0 (stp_move (.dat _) rfl) ?_
          refine seq_run0 (stp_assign (.dat _) rfl) ?_
          refine seq_run0 (stp_assign (.dat _) rfl) ?_
          refine awp_ret ?_
          cases H
          exact ⟨trivial, .inl rfl, .inl rfl, trivial⟩
        · replace H := iff_ h17 H
          refine awp_skip ?_
          refine awp_joinE (ι := Int) (fun i => [(2, .dat (vint i)), (8, .dat (vbool v14)), (9, .dat (vval (.int .u64 r15.1)))]) (fun i => []) (fun i => internal_strconv_ParseInt_J3 v14 r15 i = some r) (fun i => rfl) ?_ ?_
          · skip
            refine awp_seq ?_
            refine awp_plain hN rfl ?_
            refine seq_run0 (stp_move (.dat _) rfl) ?_
            refine seq_run0 (stp_eql rfl rfl) ?_
            refine awp_cond _ rfl (fun h18 => ?_) (fun h18 => ?_)
            · replace H := ift h18 H
              refine awp_plain hN rfl ?_
              refine seq_run0 (stp_assign (.dat _) rfl) ?_
              exact ⟨64, H, ⟨rfl, rfl, rfl, trivial⟩, trivial⟩
            · replace H := iff_ h18 H
              refine awp_skip ?_
              exact ⟨v3, H, ⟨rfl, rfl, rfl, trivial⟩, trivial⟩
          · rintro v19 H
            replace H : internal_strconv_ParseInt_J3 v14 r15 v19 = some r := H
            unfold internal_strconv_ParseInt_J3 at H
            refine awp_seq ?_
            refine awp_plain hN rfl ?_
            refine seq_run0 (stp_move (.dat _) rfl) ?_
            refine seq_run0 (stp_wrap _ rfl rfl (.inr (.inl ⟨rfl, rfl⟩))) ?_
            refine seq_run0 (stp_conv tyU3 tyU47 rfl) ?_
            obtain ⟨h20, H⟩ := gif H
            refine seq_run0 (stp_dat (stp_shl rfl rfl h20) rfl) ?_
            refine seq_run0 (stp_assign (.dat _) rfl) ?_
            refine awp_seq ?_
            refine awp_seq ?_
            refine awp_plain hN rfl ?_
            refine seq_run0 (stp_move (.dat _) rfl) ?_
            refine seq_run0 (stp_not rfl) ?_
            refine seq_run0 (stp_move (.dat _) rfl) ?_
            refine seq_aT rfl rfl (fun hc => stp_move (.dat _) rfl) ?_
            refine seq_aT rfl rfl (fun hc => stp_move (.dat _) rfl) ?_
            refine seq_aT rfl rfl (fun hc => stp_geq (cnd (c := (!v14)) hc) (cnd (c := (!v14)) hc)) ?_
            refine seq_run0 (stp_pick_and rfl (fun hb => (cnd (c := (!v14)) hb)) rfl) ?_
            refine awp_cond _ rfl (fun h21 => ?_) (fun h21 => ?_)
            · replace H := ift h21 H
              cases H
            · replace H := iff_ h21 H
              refine awp_skip ?_
              refine awp_seq ?_
              refine awp_seq ?_
              refine awp_plain hN rfl ?_
              refine seq_run0 (stp_move (.dat _) rfl) ?_
              refine seq_run0 (stp_move (.dat _) rfl) ?_
              refine seq_aT rfl rfl (fun hc => stp_move (.dat _) rfl) ?_
              refine seq_aT rfl rfl (fun hc => stp_move (.dat _) rfl) ?_
              refine seq_aT rfl rfl (fun hc => stp_gtr (cnd (c := v14) hc) (cnd (c := v14) hc)) ?_
              refine seq_run0 (stp_pick_and rfl (fun hb => (cnd (c := v14) hb)) rfl) ?_
              refine awp_cond _ rfl (fun h22 => ?_) (fun h22 => ?_)
              · replace H := ift h22 H
                cases H
              · replace H := iff_ h22 H
                refine awp_skip ?_
                refine awp_seq ?_
                refine awp_plain hN rfl ?_
                refine seq_run0 (stp_move (.dat _) rfl) ?_
                refine seq_run0 (stp_conv tyU50 tyU2 rfl) ?_
                refine seq_run0 (stp_assign (.dat _) rfl) ?_
                refine awp_joinE (ι := Int) (fun i => [(11, .dat (vint i))]) (fun i => []) (fun i => internal_strconv_ParseInt_J4 i = some r) (fun i => rfl) ?_ ?_
                · skip
                  refine awp_seq ?_
                  refine awp_plain hN rfl ?_
                  refine seq_run0 (stp_move (.dat _) rfl) ?_
                  refine awp_cond _ rfl (fun h23 => ?_) (fun h23 => ?_)
                  · replace H := ift h23 H
                    refine awp_plain hN rfl ?_
                    refine seq_run0 (stp_move (.dat _) rfl) ?_
                    obtain ⟨h24, H⟩ := gif H
                    refine seq_run0 (stp_neg rfl h24) ?_
                    refine seq_run0 (stp_assign (.dat _) rfl) ?_
                    exact ⟨(-(IntKind.wrap .i64 r15.1)), H, ⟨rfl, trivial⟩, trivial⟩
                  · replace H := iff_ h23 H
                    refine awp_skip ?_
                    exact ⟨IntKind.wrap .i64 r15.1, H, ⟨rfl, trivial⟩, trivial⟩
                · rintro v25 H
                  replace H : internal_strconv_ParseInt_J4 v25 = some r := H
                  unfold internal_strconv_ParseInt_J4 at H
                  refine awp_seq ?_
                  refine awp_plain hN rfl ?_
                  refine seq_run0 (stp_move (.dat _) rfl) ?_
                  refine seq_run0 (stp_assign (.dat _) rfl) ?_
                  refine seq_run0 (stp_assign (.dat _) rfl) ?_
                  refine awp_ret ?_
                  cases H
                  exact ⟨trivial, .inl rfl, .inl rfl, trivial⟩
theorem k_strconv_ParseInt (s1 : Bs) (base2 : Int) (bitSize3 : Int) (r : (Int × Unit)) (H : m_strconv_ParseInt s1 base2 bitSize3 = some r) : Fn Tryd.prog 18 [vstr s1, vint base2, vint bitSize3] (resOf [vint r.1, vval .nilIface]) := by
  refine ⟨by kernel_rfl, pure_of (us := [vint r.1, vval .nilIface]) Tryd.func18 rfl rfl rfl rfl fun X hN => ?_⟩
  unfold m_strconv_ParseInt at H
  refine awp_seq ?_
  refine awp_plain hN rfl ?_
  refine seq_run0 (stp_assign (.dat _) rfl) ?_
  refine seq_run0 (stp_assign (.dat _) rfl) ?_
  refine awp_seq ?_
  refine awp_plain hN rfl ?_
  refine seq_run0 (stp_move (.dat _) rfl) ?_
  refine seq_run0 (stp_move (.dat _) rfl) ?_
  refine seq_run0 (stp_move (.dat _) rfl) ?_
  obtain ⟨r4, h5, H⟩ := bnd H
  refine seq_run0 (stp_call (k_internal_strconv_ParseInt s1 base2 bitSize3 r4 h5) ⟨.inl rfl, .inl rfl, .inl rfl, trivial⟩) ?_
  refine seq_run0 (stp_move (.dat _) rfl) ?_
  refine seq_run0 (stp_ext rfl rfl) ?_
  refine seq_run0 (stp_ext rfl rfl) ?_
  refine seq_run0 (stp_assign (.dat _) rfl) ?_
  refine seq_run0 (stp_assign (.dat _) rfl) ?_
  refine awp_seq ?_
  refine awp_seq ?_
  refine awp_plain hN rfl ?_
  refine seq_run0 (stp_move (.dat _) rfl) ?_
  refine seq_run0 (stp_ifneq (show Tryd.prog.underlying 42 = some (.interface (Tryd.prog.methodsAt 42)) from by kernel_rfl) rfl) ?_
  refine awp_cond _ rfl (fun h6 => ?_) (fun h6 => ?_)
  · replace H := ift h6 H
    cases H
  · replace H := iff_ h6 H
    refine awp_skip ?_
    refine awp_seq ?_
    refine awp_plain hN rfl ?_
    refine seq_run0 (stp_move (.dat _) rfl) ?_
    refine seq_run0 (stp_assign (.dat _) rfl) ?_
    refine seq_run0 (stp_assign (.dat _) rfl) ?_
    refine awp_ret ?_
    cases H
    exact ⟨trivial, .inl rfl, .inl rfl, trivial⟩
theorem k_internal_strconv_small (i1 : Int) (r : (Bs)) (H : m_internal_strconv_small i1 = some r) : Fn Tryd.prog 40 [vint i1] (resOf [vstr r]) := by
  refine ⟨by kernel_rfl, pure_of (us := [vstr r]) Tryd.func40 rfl rfl rfl rfl fun X hN => ?_⟩
  unfold m_internal_strconv_small at H
  refine awp_seq ?_
  refine awp_plain hN rfl ?_
  refine seq_run0 (stp_assign (.dat _) rfl) ?_
  refine awp_seq ?_
  refine awp_seq ?_
  refine awp_plain hN rfl ?_
  refine seq_run0 (stp_move (.dat _) rfl) ?_
  refine seq_run0 (stp_lss rfl rfl) ?_
  refine awp_cond _ rfl (fun h2 => ?_) (fun h2 => ?_)
  · replace H := ift h2 H
    refine awp_seq ?_
    refine awp_plain hN rfl ?_
    refine seq_run0 (stp_move (.dat _) rfl) ?_
    refine seq_run0 (stp_move (.dat _) rfl) ?_
    refine seq_run0 (stp_wrap _ rfl rfl (.inl ⟨rfl, rfl⟩)) ?_
    obtain ⟨l3, h4, H⟩ := bnd H
    refine seq_run0 (t_subS tyU9 rfl rfl rfl h4) ?_
    refine seq_run0 (stp_assign (.dat _) rfl) ?_
    refine awp_ret ?_
    cases H
    exact ⟨trivial, .inl rfl, trivial⟩
  · replace H := iff_ h2 H
    refine awp_skip ?_
    refine awp_seq ?_
    refine awp_plain hN rfl ?_
    refine seq_run0 (stp_move (.dat _) rfl) ?_
    refine seq_run0 (stp_wrap _ rfl rfl (.inr (.inr ⟨rfl, rfl⟩))) ?_
    refine seq_run0 (stp_move (.dat _) rfl) ?_
    refine seq_run0 (stp_wrap _ rfl rfl (.inr (.inr ⟨rfl, rfl⟩))) ?_
    refine seq_run0 (stp_wrap _ rfl rfl (.inl ⟨rfl, rfl⟩)) ?_
    obtain ⟨l5, h6, H⟩ := bnd H
    refine seq_run0 (t_subS tyU9 rfl rfl rfl h6) ?_
    refine seq_run0 (stp_assign (.dat _) rfl) ?_
    refine awp_ret ?_
    cases H
    exact ⟨trivial, .inl rfl, trivial⟩
theorem k_math_bits_Len64 (x1 : Int) (r : (Int)) (H : m_math_bits_Len64 x1 = some r) : Fn Tryd.prog 57 [vval (.int .u64 x1)] (resOf [vint r]) := by
  refine ⟨by kernel_rfl, pure_of (us := [vint r]) Tryd.func57 rfl rfl rfl rfl fun X hN => ?_⟩
  unfold m_math_bits_Len64 at H
  refine awp_seq ?_
  refine awp_plain hN rfl ?_
  refine seq_run0 (stp_assign (.dat _) rfl) ?_
  refine awp_joinE (ι := Int × Int) (fun i => [(0, .dat (vval (.int .u64 i.1))), (2, .dat (vint i.2))]) (fun i => []) (fun i => math_bits_Len64_J1 i.1 i.2 = some r) (fun i => rfl) ?_ ?_
  · skip
    refine awp_seq ?_
    refine awp_plain hN rfl ?_
    refine seq_run0 (stp_move (.dat _) rfl) ?_
    refine seq_run0 (stp_geq rfl rfl) ?_
    refine awp_cond _ rfl (fun h2 => ?_) (fun h2 => ?_)
    · replace H := ift h2 H
      refine awp_seq ?_
      refine awp_plain hN rfl ?_
      refine seq_run0 (stp_move (.dat _) rfl) ?_
      refine seq_run0 (stp_dat (stp_shr rfl rfl (by decide)) rfl) ?_
      refine seq_run0 (stp_assign (.dat _) rfl) ?_
      refine awp_plain hN rfl ?_
      refine seq_run0 (stp_assign (.dat _) rfl) ?_
      exact ⟨((shr_ .u64 x1 32), 32), H, ⟨rfl, rfl, trivial⟩, trivial⟩
    · replace H := iff_ h2 H
      refine awp_skip ?_
      exact ⟨(x1, 0), H, ⟨rfl, rfl, trivial⟩, trivial⟩
  · rintro ⟨x3, n4⟩ H
    replace H : math_bits_Len64_J1 x3 n4 = some r := H
    unfold math_bits_Len64_J1 at H
    refine awp_joinE (ι := Int × Int) (fun i => [(0, .dat (vval (.int .u64 i.1))), (2, .dat (vint i.2))]) (fun i => []) (fun i => math_bits_Len64_J2 i.1 i.2 = some r) (fun i => rfl) ?_ ?_
    · skip
      refine awp_seq ?_
      refine awp_plain hN rfl ?_
      refine seq_run0 (stp_move (.dat _) rfl) ?_
      refine seq_run0 (stp_geq rfl rfl) ?_
      refine awp_cond _ rfl (fun h5 => ?_) (fun h5 => ?_)
      · replace H := ift h5 H
        refine awp_seq ?_
        refine awp_plain hN rfl ?_
        refine seq_run0 (stp_move (.dat _) rfl) ?_
        refine seq_run0 (stp_dat (stp_shr rfl rfl (by decide)) rfl) ?_
        refine seq_run0 (stp_assign (.dat _) rfl) ?_
        refine awp_plain hN rfl ?_
        refine seq_run0 (stp_move (.dat _) rfl) ?_
        refine seq_run0 (stp_wrap _ rfl rfl (.inl ⟨rfl, rfl⟩)) ?_
        refine seq_run0 (stp_assign (.dat _) rfl) ?_
        exact ⟨((shr_ .u64 x3 16), wr (n4 + 16)), H, ⟨rfl, rfl, trivial⟩, trivial⟩
      · replace H := iff_ h5 H
        refine awp_skip ?_
        exact ⟨(x3, n4), H, ⟨rfl, rfl, trivial⟩, trivial⟩
    · rintro ⟨x6, n7⟩ H
      replace H : math_bits_Len64_J2 x6 n7 = some r := H
      unfold math_bits_Len64_J2 at H
      refine awp_joinE (ι := Int × Int) (fun i => [(0, .dat (vval (.int .u64 i.1))), (2, .dat (vint i.2))]) (fun i => []) (fun i => math_bits_Len64_J3 i.1 i.2 = some r) (fun i => rfl) ?_ ?_
      · skip
        refine awp_seq ?_
        refine awp_plain hN rfl ?_
        refine seq_run0 (stp_move (.dat _) rfl) ?_
        refine seq_run0 (stp_geq rfl rfl) ?_
        refine awp_cond _ rfl (fun h8 => ?_) (fun h8 => ?_)
        · replace H := ift h8 H
          refine awp_seq ?_
          refine awp_plain hN rfl ?_
          refine seq_run0 (stp_move (.dat _) rfl) ?_
          refine seq_run0 (stp_dat (stp_shr rfl rfl (by decide)) rfl) ?_
          refine seq_run0 (stp_assign (.dat _) rfl) ?_
          refine awp_plain hN rfl ?_
          refine seq_run0 (stp_move (.dat _) rfl) ?_
          refine seq_run0 (stp_wrap _ rfl rfl (.inl ⟨rfl, rfl⟩)) ?_
          refine seq_run0 (stp_assign (.dat _) rfl) ?_
          exact ⟨((shr_ .u64 x6 8), wr (n7 + 8)), H, ⟨rfl, rfl, trivial⟩, trivial⟩
        · replace H := iff_ h8 H
          refine awp_skip ?_
          exact ⟨(x6, n7), H, ⟨rfl, rfl, trivial⟩, trivial⟩
      · rintro ⟨x9, n10⟩ H
        replace H : math_bits_Len64_J3 x9 n10 = some r := H
        unfold math_bits_Len64_J3 at H
        refine awp_seq ?_
        refine awp_plain hN rfl ?_
        refine seq_run0 (stp_move (.dat _) rfl) ?_
        refine seq_run0 (stp_move (.dat _) rfl) ?_
        refine seq_run0 (stp_conv tyU50 tyU5 rfl) ?_
        obtain ⟨x11, h12, H⟩ := bnd H
        refine seq_run0 (t_byteK tyU9 rfl rfl h12) ?_
        refine seq_run0 (stp_conv tyU5 tyU3 rfl) ?_
        refine seq_run0 (stp_wrap _ rfl rfl (.inl ⟨rfl, rfl⟩)) ?_
        refine seq_run0 (stp_assign (.dat _) rfl) ?_
        refine awp_ret ?_
        cases H
        exact ⟨trivial, .inl rfl, trivial⟩
theorem k_internal_strconv_log10Pow2 (x1 : Int) (r : (Int)) (H : m_internal_strconv_log10Pow2 x1 = some r) : Fn Tryd.prog 56 [vint x1] (resOf [vint r]) := by
  refine ⟨by kernel_rfl, pure_of (us := [vint r]) Tryd.func56 rfl rfl rfl rfl fun X hN => ?_⟩
  unfold m_internal_strconv_log10Pow2 at H
  refine awp_seq ?_
  refine awp_plain hN rfl ?_
  refine seq_run0 (stp_assign (.dat _) rfl) ?_
  refine awp_seq ?_
  refine awp_plain hN rfl ?_
  refine seq_run0 (stp_move (.dat _) rfl) ?_
  refine seq_run0 (stp_wrap _ rfl rfl (.inr (.inr ⟨rfl, rfl⟩))) ?_
  refine seq_run0 (stp_dat (stp_shr rfl rfl (by decide)) rfl) ?_
  refine seq_run0 (stp_assign (.dat _) rfl) ?_
  refine awp_ret ?_
  cases H
  exact ⟨trivial, .inl rfl, trivial⟩
theorem k_internal_strconv_isPowerOfTwo (x1 : Int) (r : (Bool)) (H : m_internal_strconv_isPowerOfTwo x1 = some r) : Fn Tryd.prog 59 [vint x1] (resOf [vbool r]) := by
  refine ⟨by kernel_rfl, pure_of (us := [vbool r]) Tryd.func59 rfl rfl rfl rfl fun X hN => ?_⟩
  unfold m_internal_strconv_isPowerOfTwo at H
  refine awp_seq ?_
  refine awp_plain hN rfl ?_
  refine seq_run0 (stp_assign (.dat _) rfl) ?_
  refine awp_seq ?_
  refine awp_plain hN rfl ?_
  refine seq_run0 (stp_move (.dat _) rfl) ?_
  refine seq_run0 (stp_move (.dat _) rfl) ?_
  refine seq_run0 (stp_wrap _ rfl rfl (.inr (.inl ⟨rfl, rfl⟩))) ?_
  refine seq_run0 (stp_dat (stp_and rfl rfl) rfl) ?_
  refine seq_run0 (stp_eql rfl rfl) ?_
  refine seq_run0 (stp_assign (.dat _) rfl) ?_
  refine awp_ret ?_
  cases H
  exact ⟨trivial, .inl rfl, trivial⟩
theorem k_bits_TrailingZeros (x r : Int) (H : m_bits_TrailingZeros x = some r) : Fn Tryd.prog 60 [vval (.int .u64 x)] (resOf [vint r]) := by
  obtain ⟨h0, h1, rfl⟩ := tz_some H
  obtain ⟨n, rfl⟩ := Int.eq_ofNat_of_zero_le h0
  refine fn_of_callsG (by kernel_rfl) fun M w vs hM h => ?_
  have hv := Ts_vals (us := [.int .u64 (n : Int)]) h
  subst hv
  refine (Any7.bits_TrailingZeros Tryd.tz60 n (by omega) w (fun _ => tab_cell hM)).mono ?_
  rintro e w' ⟨rfl, rfl⟩
  exact ⟨_, rfl, rfl, Kp.refl _ _⟩
theorem k_internal_strconv_formatBits (v1 : (List Int)) (v2 : Int) (v3 : Int) (v4 : Bool) (v5 : Bool) (r : ((List Int) × Bs)) (H : m_internal_strconv_formatBits v1 v2 v3 v4 v5 = some r) : Fn Tryd.prog 43 [vlst (List.map C_uint8 v1), vval (.int .u64 v2), vint v3, vbool v4, vbool v5] (resOf [vlst (List.map C_uint8 r.1), vstr r.2]) := by
  refine ⟨by kernel_rfl, pure_of (us := [vlst (List.map C_uint8 r.1), vstr r.2]) Tryd.func43 rfl rfl rfl rfl fun X hN => ?_⟩
  unfold m_internal_strconv_formatBits at H
  refine awp_seq ?_
  refine awp_plain hN rfl ?_
  refine seq_run0 (stp_assign (.dat _) rfl) ?_
  refine seq_run0 (stp_assign (.dat _) rfl) ?_
  refine awp_seq ?_
  refine awp_seq ?_
  refine awp_plain hN rfl ?_
  refine seq_run0 (stp_move (.dat _) rfl) ?_
  refine seq_run0 (stp_lss rfl rfl) ?_
  refine seq_run0 (stp_move (.dat _) rfl) ?_
  refine seq_aF rfl rfl (fun hc => stp_move (.dat _) rfl) ?_
  refine seq_aF rfl rfl (fun hc => stp_eql (cnd (c := (!(decide (v3 < 2)))) hc) rfl) ?_
  refine seq_run0 (stp_pick_or rfl rfl (fun hb => (cnd (c := (!(decide (v3 < 2)))) (notI hb)))) ?_
  refine seq_run0 (stp_move (.dat _) rfl) ?_
  refine seq_aF rfl rfl (fun hc => stp_move (.dat _) rfl) ?_
  refine seq_aF rfl rfl (fun hc => stp_gtr (cnd (c := (!((decide (v3 < 2)) || (decide (v3 = 10))))) hc) rfl) ?_
  refine seq_run0 (stp_pick_or rfl rfl (fun hb => (cnd (c := (!((decide (v3 < 2)) || (decide (v3 = 10))))) (notI hb)))) ?_
  refine awp_cond _ rfl (fun h6 => ?_) (fun h6 => ?_)
  · replace H := ift h6 H
    cases H
  · replace H := iff_ h6 H
    refine awp_skip ?_
    refine awp_seq ?_
    refine awp_plain hN rfl ?_
    refine seq_run2 (t_allocU 1 65 (show tyZ Tryd.prog 87 = some (List.replicate 65 (.int .u8 0)) from by kernel_rfl)) rfl ?_
    refine awp_seq ?_
    refine awp_plain hN rfl ?_
    refine seq_run0 (stp_assign (.dat _) rfl) ?_
    refine awp_joinE (ι := Unit) (fun i => [(0, .dat (vlst (List.map C_uint8 v1))), (1, .dat (vval (.int .u64 v2))), (2, .dat (vint v3)), (3, .dat (vbool v4)), (4, .dat (vbool v5)), (10, .dat (vnil)), (11, .dat (vstr [])), (12, .ptr 1 0), (13, .dat (vint 65))]) (fun i => [(1, .box none 87 (List.map Slot.dat (bxU (List.replicate 65 0))))]) (fun i => internal_strconv_formatBits_J1 v2 v3 v4 v5 = some r) (fun i => okL_and rfl (okA_cons okO_bx okA_nil)) ?_ ?_
    · skip
      refine awp_seq ?_
      refine awp_plain hN rfl ?_
      refine seq_run0 (stp_move (.dat _) rfl) ?_
      refine awp_cond _ rfl (fun h7 => ?_) (fun h7 => ?_)
      · replace H := ift h7 H
        cases H
      · replace H := iff_ h7 H
        refine awp_skip ?_
        exact ⟨(), H, ⟨rfl, rfl, rfl, rfl, rfl, rfl, rfl, rfl, rfl, trivial⟩, ⟨rfl, trivial⟩⟩
    · rintro ⟨⟩ H
      replace H : internal_strconv_formatBits_J1 v2 v3 v4 v5 = some r := H
      unfold internal_strconv_formatBits_J1 at H
      refine awp_joinE (ι := Int × (List Int)) (fun i => [(0, .dat (vlst (List.map C_uint8 v1))), (3, .dat (vbool v4)), (4, .dat (vbool v5)), (10, .dat (vnil)), (11, .dat (vstr [])), (12, .ptr 1 0), (13, .dat (vint i.1))]) (fun i => [(1, .box none 87 (List.map Slot.dat (bxU i.2)))]) (fun i => internal_strconv_formatBits_J2 v4 v5 i.1 i.2 = some r) (fun i => okL_and rfl (okA_cons okO_bx okA_nil)) ?_ ?_
      · skip
        refine awp_seq ?_
        refine awp_plain hN rfl ?_
        refine seq_run0 (stp_move (.dat _) rfl) ?_
        obtain ⟨r8, h9, H⟩ := bnd H
        refine seq_run0 (stp_call (k_internal_strconv_isPowerOfTwo v3 r8 h9) ⟨.inl rfl, trivial⟩) ?_
        refine awp_cond _ rfl (fun h10 => ?_) (fun h10 => ?_)
        · replace H := ift h10 H
          refine awp_seq ?_
          refine awp_plain hN rfl ?_
          refine seq_run0 (stp_move (.dat _) rfl) ?_
          refine seq_run0 (stp_conv tyU3 tyU47 rfl) ?_
          obtain ⟨r11, h12, H⟩ := bnd H
          refine seq_run0 (stp_call (k_bits_TrailingZeros (IntKind.wrap .u64 v3) r11 h12) ⟨.inl rfl, trivial⟩) ?_
          refine seq_run0 (stp_conv tyU3 tyU47 rfl) ?_
          refine seq_run0 (stp_assign (.dat _) rfl) ?_
          refine awp_seq ?_
          refine awp_plain hN rfl ?_
          refine seq_run0 (stp_move (.dat _) rfl) ?_
          refine seq_run0 (stp_conv tyU3 tyU50 rfl) ?_
          refine seq_run0 (stp_assign (.dat _) rfl) ?_
          refine awp_seq ?_
          refine awp_plain hN rfl ?_
          refine seq_run0 (stp_move (.dat _) rfl) ?_
          refine seq_run0 (stp_conv tyU3 tyU47 rfl) ?_
          refine seq_run0 (stp_wrap _ rfl rfl (.inr (.inl ⟨rfl, rfl⟩))) ?_
          refine seq_run0 (stp_assign (.dat _) rfl) ?_
          refine awp_joinE (ι := Int × Int × (List Int)) (fun i => [(0, .dat (vlst (List.map C_uint8 v1))), (1, .dat (vval (.int .u64 i.1))), (3, .dat (vbool v4)), (4, .dat (vbool v5)), (10, .dat (vnil)), (11, .dat (vstr [])), (12, .ptr 1 0), (13, .dat (vint i.2.1))]) (fun i => [(1, .box none 87 (List.map Slot.dat (bxU i.2.2)))]) (fun i => internal_strconv_formatBits_J3 v4 v5 i.1 i.2.1 i.2.2 = some r) (fun i => okL_and rfl (okA_cons okO_bx okA_nil)) ?_ ?_
          · skip
            refine awp_block ?_
            refine awp_iter (fun (s : Int × Int × (List Int)) => [(0, .dat (vlst (List.map C_uint8 v1))), (1, .dat (vval (.int .u64 s.1))), (3, .dat (vbool v4)), (4, .dat (vbool v5)), (10, .dat (vnil)), (11, .dat (vstr [])), (12, .ptr 1 0), (13, .dat (vint s.2.1)), (14, .dat (vval (.int .u64 (IntKind.wrap .u64 r11)))), (15, .dat (vval (.int .u64 (IntKind.wrap .u64 v3)))), (16, .dat (vval (.int .u64 (IntKind.wrap .u64 ((IntKind.wrap .u64 v3) - 1)))))]) (fun (s : Int × Int × (List Int)) => [(1, .box none 87 (List.map Slot.dat (bxU s.2.2)))]) (v2, 65, (List.replicate 65 0)) H ⟨rfl, rfl, rfl, rfl, rfl, rfl, rfl, rfl, rfl, rfl, rfl, trivial⟩ ⟨rfl, trivial⟩ (fun _ => okL_and rfl (okA_cons okO_bx okA_nil)) ?_
            rintro ⟨v13, v14, l15⟩ q16 H hq16
            replace H : internal_strconv_formatBits_L4 v3 v4 v5 r11 v13 v14 l15 = some q16 := H
            unfold internal_strconv_formatBits_L4 at H
            refine awp_seq ?_
            refine awp_seq ?_
            refine awp_plain hN rfl ?_
            refine seq_run0 (stp_move (.dat _) rfl) ?_
            refine seq_run0 (stp_move (.dat _) rfl) ?_
            refine seq_run0 (stp_geq rfl rfl) ?_
            refine awp_cond _ rfl (fun h17 => ?_) (fun h17 => ?_)
            · replace H := ift h17 H
              refine awp_skip ?_
              refine awp_block ?_
              refine awp_seq ?_
              refine awp_plain hN rfl ?_
              refine seq_run0 (stp_move (.dat _) rfl) ?_
              refine seq_run0 (stp_wrap _ rfl rfl (.inr (.inl ⟨rfl, rfl⟩))) ?_
              refine seq_run0 (stp_assign (.dat _) rfl) ?_
              refine awp_seq ?_
              refine awp_plain hN rfl ?_
              refine seq_run0 (stp_move (.dat _) rfl) ?_
              refine seq_run0 (stp_move (.dat _) rfl) ?_
              refine seq_run0 (stp_move (.dat _) rfl) ?_
              refine seq_run0 (stp_dat (stp_and rfl rfl) rfl) ?_
              obtain ⟨x18, h19, H⟩ := bnd H
              refine seq_run0 (t_byteK tyU9 rfl rfl h19) ?_
              obtain ⟨h20, H⟩ := gif H
              refine seq_run0 (t_aidx (show tyA Tryd.prog 87 = some (65, 5, .int .u8) from by kernel_rfl) rfl rfl h20) ?_
              obtain ⟨h21, H⟩ := gif H
              refine seq_run2 (t_storeU (l := l15) tyS5 rfl rfl h21) rfl ?_
              refine awp_plain hN rfl ?_
              refine seq_run0 (stp_move (.dat _) rfl) ?_
              refine seq_run0 (stp_move (.dat _) rfl) ?_
              obtain ⟨h22, H⟩ := gif H
              refine seq_run0 (stp_dat (stp_shr rfl rfl h22) rfl) ?_
              refine seq_run0 (stp_assign (.dat _) rfl) ?_
              exact ⟨_, backl H, ⟨rfl, rfl, rfl, rfl, rfl, rfl, rfl, rfl, rfl, rfl, rfl, trivial⟩, ⟨rfl, trivial⟩⟩
            · replace H := iff_ h17 H
              refine awp_exit ?_
              replace H := outl H hq16
              exact ⟨(v13, v14, l15), H, ⟨rfl, rfl, rfl, rfl, rfl, rfl, rfl, rfl, trivial⟩, ⟨rfl, trivial⟩⟩
          · rintro ⟨v23, v24, l25⟩ H
            replace H : internal_strconv_formatBits_J3 v4 v5 v23 v24 l25 = some r := H
            unfold internal_strconv_formatBits_J3 at H
            refine awp_seq ?_
            refine awp_plain hN rfl ?_
            refine seq_run0 (stp_move (.dat _) rfl) ?_
            refine seq_run0 (stp_wrap _ rfl rfl (.inr (.inl ⟨rfl, rfl⟩))) ?_
            refine seq_run0 (stp_assign (.dat _) rfl) ?_
            refine awp_plain hN rfl ?_
            refine seq_run0 (stp_move (.dat _) rfl) ?_
            refine seq_run0 (stp_move (.dat _) rfl) ?_
            obtain ⟨x26, h27, H⟩ := bnd H
            refine seq_run0 (t_byteK tyU9 rfl rfl h27) ?_
            obtain ⟨h28, H⟩ := gif H
            refine seq_run0 (t_aidx (show tyA Tryd.prog 87 = some (65, 5, .int .u8) from by kernel_rfl) rfl rfl h28) ?_
            obtain ⟨h29, H⟩ := gif H
            refine seq_run2 (t_storeU (l := l25) tyS5 rfl rfl h29) rfl ?_
            exact ⟨(wr (v24 - 1), (l25.set (wr (v24 - 1)).toNat (x26.toNat : Int))), H, ⟨rfl, rfl, rfl, rfl, rfl, rfl, rfl, trivial⟩, ⟨rfl, trivial⟩⟩
        · replace H := iff_ h10 H
          refine awp_seq ?_
          refine awp_plain hN rfl ?_
          refine seq_run0 (stp_move (.dat _) rfl) ?_
          refine seq_run0 (stp_conv tyU3 tyU50 rfl) ?_
          refine seq_run0 (stp_assign (.dat _) rfl) ?_
          refine awp_joinE (ι := Int × Int × (List Int)) (fun i => [(0, .dat (vlst (List.map C_uint8 v1))), (1, .dat (vval (.int .u64 i.1))), (3, .dat (vbool v4)), (4, .dat (vbool v5)), (10, .dat (vnil)), (11, .dat (vstr [])), (12, .ptr 1 0), (13, .dat (vint i.2.1))]) (fun i => [(1, .box none 87 (List.map Slot.dat (bxU i.2.2)))]) (fun i => internal_strconv_formatBits_J5 v4 v5 i.1 i.2.1 i.2.2 = some r) (fun i => okL_and rfl (okA_cons okO_bx okA_nil)) ?_ ?_
          · skip
            refine awp_block ?_
            refine awp_iter (fun (s : Int × Int × (List Int)) => [(0, .dat (vlst (List.map C_uint8 v1))), (1, .dat (vval (.int .u64 s.1))), (3, .dat (vbool v4)), (4, .dat (vbool v5)), (10, .dat (vnil)), (11, .dat (vstr [])), (12, .ptr 1 0), (13, .dat (vint s.2.1)), (17, .dat (vval (.int .u64 (IntKind.wrap .u64 v3))))]) (fun (s : Int × Int × (List Int)) => [(1, .box none 87 (List.map Slot.dat (bxU s.2.2)))]) (v2, 65, (List.replicate 65 0)) H ⟨rfl, rfl, rfl, rfl, rfl, rfl, rfl, rfl, rfl, trivial⟩ ⟨rfl, trivial⟩ (fun _ => okL_and rfl (okA_cons okO_bx okA_nil)) ?_
            rintro ⟨v30, v31, l32⟩ q33 H hq33
            replace H : internal_strconv_formatBits_L6 v3 v4 v5 v30 v31 l32 = some q33 := H
            unfold internal_strconv_formatBits_L6 at H
            refine awp_seq ?_
            refine awp_seq ?_
            refine awp_plain hN rfl ?_
            refine seq_run0 (stp_move (.dat _) rfl) ?_
            refine seq_run0 (stp_move (.dat _) rfl) ?_
            refine seq_run0 (stp_geq rfl rfl) ?_
            refine awp_cond _ rfl (fun h34 => ?_) (fun h34 => ?_)
            · replace H := ift h34 H
              refine awp_skip ?_
              refine awp_block ?_
              refine awp_seq ?_
              refine awp_plain hN rfl ?_
              refine seq_run0 (stp_move (.dat _) rfl) ?_
              refine seq_run0 (stp_wrap _ rfl rfl (.inr (.inl ⟨rfl, rfl⟩))) ?_
              refine seq_run0 (stp_assign (.dat _) rfl) ?_
              refine awp_seq ?_
              refine awp_plain hN rfl ?_
              refine seq_run0 (stp_move (.dat _) rfl) ?_
              refine seq_run0 (stp_move (.dat _) rfl) ?_
              obtain ⟨h35, H⟩ := gif H
              refine seq_run0 (stp_quoK rfl rfl h35) ?_
              refine seq_run0 (stp_assign (.dat _) rfl) ?_
              refine awp_seq ?_
              refine awp_plain hN rfl ?_
              refine seq_run0 (stp_move (.dat _) rfl) ?_
              refine seq_run0 (stp_move (.dat _) rfl) ?_
              refine seq_run0 (stp_move (.dat _) rfl) ?_
              refine seq_run0 (stp_move (.dat _) rfl) ?_
              refine seq_run0 (stp_wrap _ rfl rfl (.inr (.inr ⟨rfl, rfl⟩))) ?_
              refine seq_run0 (stp_wrap _ rfl rfl (.inr (.inl ⟨rfl, rfl⟩))) ?_
              obtain ⟨x36, h37, H⟩ := bnd H
              refine seq_run0 (t_byteK tyU9 rfl rfl h37) ?_
              obtain ⟨h38, H⟩ := gif H
              refine seq_run0 (t_aidx (show tyA Tryd.prog 87 = some (65, 5, .int .u8) from by kernel_rfl) rfl rfl h38) ?_
              obtain ⟨h39, H⟩ := gif H
              refine seq_run2 (t_storeU (l := l32) tyS5 rfl rfl h39) rfl ?_
              refine awp_plain hN rfl ?_
              refine seq_run0 (stp_move (.dat _) rfl) ?_
              refine seq_run0 (stp_assign (.dat _) rfl) ?_
              exact ⟨_, backl H, ⟨rfl, rfl, rfl, rfl, rfl, rfl, rfl, rfl, rfl, trivial⟩, ⟨rfl, trivial⟩⟩
            · replace H := iff_ h34 H
              refine awp_exit ?_
              replace H := outl H hq33
              exact ⟨(v30, v31, l32), H, ⟨rfl, rfl, rfl, rfl, rfl, rfl, rfl, rfl, trivial⟩, ⟨rfl, trivial⟩⟩
          · rintro ⟨v40, v41, l42⟩ H
            replace H : internal_strconv_formatBits_J5 v4 v5 v40 v41 l42 = some r := H
            unfold internal_strconv_formatBits_J5 at H
            refine awp_seq ?_
            refine awp_plain hN rfl ?_
            refine seq_run0 (stp_move (.dat _) rfl) ?_
            refine seq_run0 (stp_wrap _ rfl rfl (.inr (.inl ⟨rfl, rfl⟩))) ?_
            refine seq_run0 (stp_assign (.dat _) rfl) ?_
            refine awp_plain hN rfl ?_
            refine seq_run0 (stp_move (.dat _) rfl) ?_
            refine seq_run0 (stp_move (.dat _) rfl) ?_
            obtain ⟨x43, h44, H⟩ := bnd H
            refine seq_run0 (t_byteK tyU9 rfl rfl h44) ?_
            obtain ⟨h45, H⟩ := gif H
            refine seq_run0 (t_aidx (show tyA Tryd.prog 87 = some (65, 5, .int .u8) from by kernel_rfl) rfl rfl h45) ?_
            obtain ⟨h46, H⟩ := gif H
            refine seq_run2 (t_storeU (l := l42) tyS5 rfl rfl h46) rfl ?_
            exact ⟨(wr (v41 - 1), (l42.set (wr (v41 - 1)).toNat (x43.toNat : Int))), H, ⟨rfl, rfl, rfl, rfl, rfl, rfl, rfl, trivial⟩, ⟨rfl, trivial⟩⟩
      · rintro ⟨v47, l48⟩ H
        replace H : internal_strconv_formatBits_J2 v4 v5 v47 l48 = some r := H
        unfold internal_strconv_formatBits_J2 at H
        refine awp_joinE (ι := Int × (List Int)) (fun i => [(0, .dat (vlst (List.map C_uint8 v1))), (4, .dat (vbool v5)), (10, .dat (vnil)), (11, .dat (vstr [])), (12, .ptr 1 0), (13, .dat (vint i.1))]) (fun i => [(1, .box none 87 (List.map Slot.dat (bxU i.2)))]) (fun i => internal_strconv_formatBits_J7 v5 i.1 i.2 = some r) (fun i => okL_and rfl (okA_cons okO_bx okA_nil)) ?_ ?_
        · skip
          refine awp_seq ?_
          refine awp_plain hN rfl ?_
          refine seq_run0 (stp_move (.dat _) rfl) ?_
          refine awp_cond _ rfl (fun h49 => ?_) (fun h49 => ?_)
          · replace H := ift h49 H
            refine awp_seq ?_
            refine awp_plain hN rfl ?_
            refine seq_run0 (stp_move (.dat _) rfl) ?_
            refine seq_run0 (stp_wrap _ rfl rfl (.inr (.inl ⟨rfl, rfl⟩))) ?_
            refine seq_run0 (stp_assign (.dat _) rfl) ?_
            refine awp_plain hN rfl ?_
            refine seq_run0 (stp_move (.dat _) rfl) ?_
            obtain ⟨h50, H⟩ := gif H
            refine seq_run0 (t_aidx (show tyA Tryd.prog 87 = some (65, 5, .int .u8) from by kernel_rfl) rfl rfl h50) ?_
            obtain ⟨h51, H⟩ := gif H
            refine seq_run2 (t_storeU (l := l48) tyS5 rfl rfl h51) rfl ?_
            exact ⟨(wr (v47 - 1), (l48.set (wr (v47 - 1)).toNat 45)), H, ⟨rfl, rfl, rfl, rfl, rfl, rfl, trivial⟩, ⟨rfl, trivial⟩⟩
          · replace H := iff_ h49 H
            refine awp_skip ?_
            exact ⟨(v47, l48), H, ⟨rfl, rfl, rfl, rfl, rfl, rfl, trivial⟩, ⟨rfl, trivial⟩⟩
        · rintro ⟨v52, l53⟩ H
          replace H : internal_strconv_formatBits_J7 v5 v52 l53 = some r := H
          unfold internal_strconv_formatBits_J7 at H
          refine awp_seq ?_
          refine awp_seq ?_
          refine awp_plain hN rfl ?_
          refine seq_run0 (stp_move (.dat _) rfl) ?_
          refine awp_cond _ rfl (fun h54 => ?_) (fun h54 => ?_)
          · replace H := ift h54 H
            cases H
          · replace H := iff_ h54 H
            refine awp_skip ?_
            refine awp_seq ?_
            refine awp_frzB 1 (bxU l53) rfl rfl ?_
            refine awp_plain hN rfl ?_
            refine seq_run0 (stp_move (.dat _) rfl) ?_
            obtain ⟨h55, H⟩ := gif H
            obtain ⟨h56, H⟩ := gif H
            refine seq_run0 (t_aslice (C := C_uint8) (show tyA Tryd.prog 87 = some (65, 5, .int .u8) from by kernel_rfl) rfl h55 rfl h56 (fun _ => rfl)) ?_
            refine seq_run0 (stp_convB (C := C_uint8) tyU26 tyU5 tyU9 (fun _ => rfl) rfl) ?_
            refine seq_run0 (stp_assign (.dat _) rfl) ?_
            refine awp_ret ?_
            cases H
            exact ⟨trivial, .inr ⟨rfl, rfl⟩, .inl rfl, trivial⟩
theorem k_internal_strconv_FormatInt (i1 : Int) (base2 : Int) (r : (Bs)) (H : m_internal_strconv_FormatInt i1 base2 = some r) : Fn Tryd.prog 28 [vint i1, vint base2] (resOf [vstr r]) := by
  refine ⟨by kernel_rfl, pure_of (us := [vstr r]) Tryd.func28 rfl rfl rfl rfl fun X hN => ?_⟩
  unfold m_internal_strconv_FormatInt at H
  refine awp_seq ?_
  refine awp_plain hN rfl ?_
  refine seq_run0 (stp_assign (.dat _) rfl) ?_
  refine awp_seq ?_
  refine awp_seq ?_
  refine awp_plain hN rfl ?_
  refine seq_run0 (stp_move (.dat _) rfl) ?_
  refine seq_run0 (stp_eql rfl rfl) ?_
  refine awp_cond _ rfl (fun h3 => ?_) (fun h3 => ?_)
  · replace H := ift h3 H
    refine awp_seq ?_
    refine awp_seq ?_
    refine awp_plain hN rfl ?_
    refine seq_run0 (stp_move (.dat _) rfl) ?_
    refine seq_run0 (stp_leq rfl rfl) ?_
    refine seq_run0 (stp_move (.dat _) rfl) ?_
    refine seq_aT rfl rfl (fun hc => stp_move (.dat _) rfl) ?_
    refine seq_aT rfl rfl (fun hc => stp_lss (cnd (c := (decide (0 ≤ i1))) hc) rfl) ?_
    refine seq_run0 (stp_pick_and rfl (fun hb => (cnd (c := (decide (0 ≤ i1))) hb)) rfl) ?_
    refine awp_cond _ rfl (fun h4 => ?_) (fun h4 => ?_)
    · replace H := ift h4 H
      refine awp_seq ?_
      refine awp_plain hN rfl ?_
      refine seq_run0 (stp_move (.dat _) rfl) ?_
      obtain ⟨r5, h6, H⟩ := bnd H
      refine seq_run0 (stp_call (k_internal_strconv_small i1 r5 h6) ⟨.inl rfl, trivial⟩) ?_
      refine seq_run0 (stp_assign (.dat _) rfl) ?_
      refine awp_ret ?_
      cases H
      exact ⟨trivial, .inl rfl, trivial⟩
    · replace H := iff_ h4 H
      cases H
  · replace H := iff_ h3 H
    refine awp_skip ?_
    refine awp_seq ?_
    refine awp_plain hN rfl ?_
    refine seq_run0 (stp_move (.dat _) rfl) ?_
    refine seq_run0 (stp_conv tyU2 tyU50 rfl) ?_
    refine seq_run0 (stp_move (.dat _) rfl) ?_
    refine seq_run0 (stp_move (.dat _) rfl) ?_
    refine seq_run0 (stp_lss rfl rfl) ?_
    obtain ⟨r7, h8, H⟩ := bnd H
    refine seq_run0 (stp_call (k_internal_strconv_formatBits ([] : (List Int)) (IntKind.wrap .u64 i1) base2 (decide (i1 < 0)) false r7 h8) ⟨.inr ⟨rfl, rfl⟩, .inl rfl, .inl rfl, .inl rfl, .inl rfl, trivial⟩) ?_
    refine seq_run0 (stp_move (.dat _) rfl) ?_
    refine seq_run0 (stp_ext rfl rfl) ?_
    refine seq_run0 (stp_ext rfl rfl) ?_
    refine seq_run0 (stp_assign (.dat _) rfl) ?_
    refine seq_run0 (stp_assign (.dat _) rfl) ?_
    refine awp_seq ?_
    refine awp_plain hN rfl ?_
    refine seq_run0 (stp_move (.dat _) rfl) ?_
    refine seq_run0 (stp_assign (.dat _) rfl) ?_
    refine awp_ret ?_
    cases H
    exact ⟨trivial, .inl rfl, trivial⟩
theorem k_strconv_FormatInt (i1 : Int) (base2 : Int) (r : (Bs)) (H : m_strconv_FormatInt i1 base2 = some r) : Fn Tryd.prog 17 [vint i1, vint base2] (resOf [vstr r]) := by
  refine ⟨by kernel_rfl, pure_of (us := [vstr r]) Tryd.func17 rfl rfl rfl rfl fun X hN => ?_⟩
  unfold m_strconv_FormatInt at H
  refine awp_seq ?_
  refine awp_plain hN rfl ?_
  refine seq_run0 (stp_assign (.dat _) rfl) ?_
  refine awp_seq ?_
  refine awp_plain hN rfl ?_
  refine seq_run0 (stp_move (.dat _) rfl) ?_
  refine seq_run0 (stp_move (.dat _) rfl) ?_
  obtain ⟨r3, h4, H⟩ := bnd H
  refine seq_run0 (stp_call (k_internal_strconv_FormatInt i1 base2 r3 h4) ⟨.inl rfl, .inl rfl, trivial⟩) ?_
  refine seq_run0 (stp_assign (.dat _) rfl) ?_
  refine awp_ret ?_
  cases H
  exact ⟨trivial, .inl rfl, trivial⟩
theorem k_gateref2_Encoded (s1 : Bs) (r : (Bs)) (H : m_gateref2_Encoded s1 = some r) : Fn Tryd.prog 5 [vstr s1] (resOf [vstr r]) := by
  refine ⟨by kernel_rfl, pure_of (us := [vstr r]) Tryd.func5 rfl rfl rfl rfl fun X hN => ?_⟩
  unfold m_gateref2_Encoded at H
  refine awp_seq ?_
  refine awp_plain hN rfl ?_
  refine seq_run0 (stp_assign (.dat _) rfl) ?_
  refine awp_seq ?_
  refine awp_plain hN rfl ?_
  refine seq_run0 (stp_assign (.dat _) rfl) ?_
  refine awp_seq ?_
  refine awp_seq ?_
  refine awp_plain hN rfl ?_
  refine seq_run0 (stp_move (.dat _) rfl) ?_
  refine seq_run0 (stp_len_str tyU9 rfl) ?_
  refine seq_run0 (stp_move (.dat _) rfl) ?_
  refine awp_block ?_
  obtain ⟨h5, H⟩ := gif H
  refine awp_forL (fun (k3 : Nat) (s : Bs) => [(0, .dat (vstr s1)), (3, .dat (vstr s)), (10, .dat (vint (s1.length : Int))), (11, .dat (vint (k3 : Int)))]) (fun (k3 : Nat) (s : Bs) => []) [] H ⟨rfl, rfl, rfl, rfl, trivial⟩ trivial (fun _ _ => rfl) ?_ ?_
  · rintro bits2 H
    replace H : gateref2_Encoded_E1 bits2 = some r := H
    unfold gateref2_Encoded_E1 at H
    refine awp_seq ?_
    refine awp_plain hN rfl ?_
    refine seq_run0 (stp_lss rfl rfl) ?_
    refine awp_seq ?_
    refine awp_cond _ rfl (fun h => (lt_t h).elim) (fun h => ?_)
    refine awp_exit ?_
    refine awp_seq ?_
    refine awp_plain hN rfl ?_
    refine seq_run0 (stp_assign (.dat _) rfl) ?_
    refine awp_joinE (ι := Bs) (fun i => [(5, .dat (vstr i))]) (fun i => []) (fun i => gateref2_Encoded_J2 i = some r) (fun i => rfl) ?_ ?_
    · skip
      refine awp_block ?_
      refine awp_iter (fun (s : Bs × Bs) => [(3, .dat (vstr s.1)), (5, .dat (vstr s.2))]) (fun (s : Bs × Bs) => []) (bits2, []) H ⟨rfl, rfl, trivial⟩ trivial (fun _ => rfl) ?_
      rintro ⟨bits7, out8⟩ q9 H hq9
      replace H : gateref2_Encoded_L3 bits7 out8 = some q9 := H
      unfold gateref2_Encoded_L3 at H
      refine awp_seq ?_
      refine awp_seq ?_
      refine awp_plain hN rfl ?_
      refine seq_run0 (stp_move (.dat _) rfl) ?_
      refine seq_run0 (stp_sneq rfl rfl) ?_
      refine awp_cond _ rfl (fun h10 => ?_) (fun h10 => ?_)
      · replace H := ift h10 H
        refine awp_skip ?_
        refine awp_block ?_
        refine awp_seq ?_
        refine awp_plain hN rfl ?_
        refine seq_run0 (stp_move (.dat _) rfl) ?_
        refine seq_run0 (stp_len_str tyU9 rfl) ?_
        refine seq_run0 (stp_min rfl rfl) ?_
        refine seq_run0 (stp_assign (.dat _) rfl) ?_
        refine awp_seq ?_
        refine awp_draw mixed hN rfl rfl ?_
        refine seq_run0 (stp_move (.dat _) rfl) ?_
        refine seq_run0 (stp_move (.dat _) rfl) ?_
        obtain ⟨l11, h12, H⟩ := bnd H
        refine seq_run0 (t_subS tyU9 rfl rfl rfl h12) ?_
        refine seq_run0 (stp_move (.dat _) rfl) ?_
        obtain ⟨l13, h14, H⟩ := bnd H
        refine seq_run0 (t_subS tyU9 rfl rfl rfl h14) ?_
        obtain ⟨h15, H⟩ := gif H
        refine seq_run0 (stp_sadd rfl rfl (Nat.le_trans h15 (by decide))) ?_
        obtain ⟨r16, h17, H⟩ := bnd H
        refine seq_run0 (stp_call (k_strconv_ParseInt (l11 ++ l13) 2 64 r16 h17) ⟨.inl rfl, .inl rfl, .inl rfl, trivial⟩) ?_
        refine seq_run0 (stp_move (.dat _) rfl) ?_
        refine seq_run0 (stp_ext rfl rfl) ?_
        refine seq_run0 (stp_ext rfl rfl) ?_
        refine seq_run0 (stp_assign (.dat _) rfl) ?_
        refine seq_run0 (stp_assign (.dat _) rfl) ?_
        refine ⟨rfl, ?_⟩
        refine awp_seq ?_
        refine awp_plain hN rfl ?_
        refine seq_run0 (stp_move (.dat _) rfl) ?_
        refine seq_run0 (stp_move (.dat _) rfl) ?_
        refine seq_run0 (stp_move (.dat _) rfl) ?_
        refine seq_run0 (stp_wrap _ rfl rfl (.inl ⟨rfl, rfl⟩)) ?_
        obtain ⟨l18, h19, H⟩ := bnd H
        refine seq_run0 (t_subS tyU9 rfl rfl rfl h19) ?_
        obtain ⟨h20, H⟩ := gif H
        refine seq_run0 (stp_sadd rfl rfl (Nat.le_trans h20 (by decide))) ?_
        refine seq_run0 (stp_assign (.dat _) rfl) ?_
        refine awp_plain hN rfl ?_
        refine seq_run0 (stp_move (.dat _) rfl) ?_
        refine seq_run0 (stp_move (.dat _) rfl) ?_
        obtain ⟨l21, h22, H⟩ := bnd H
        refine seq_run0 (t_subS tyU9 rfl rfl rfl h22) ?_
        refine seq_run0 (stp_assign (.dat _) rfl) ?_
        exact ⟨_, backl H, ⟨rfl, rfl, trivial⟩, trivial⟩
      · replace H := iff_ h10 H
        refine awp_exit ?_
        replace H := outl H hq9
        exact ⟨out8, H, ⟨rfl, trivial⟩, trivial⟩
    · rintro out23 H
      replace H : gateref2_Encoded_J2 out23 = some r := H
      unfold gateref2_Encoded_J2 at H
      refine awp_seq ?_
      refine awp_plain hN rfl ?_
      refine seq_run0 (stp_move (.dat _) rfl) ?_
      refine seq_run0 (stp_assign (.dat _) rfl) ?_
      refine awp_ret ?_
      cases H
      exact ⟨trivial, .inl rfl, trivial⟩
  · rintro k3 x6 bits2 q4 h24 h25 H hq4
    replace H : gateref2_Encoded_L1 k3 x6 bits2 = some q4 := H
    unfold gateref2_Encoded_L1 at H
    refine awp_seq ?_
    refine awp_plain hN rfl ?_
    refine seq_run0 (stp_lss rfl rfl) ?_
    refine awp_seq ?_
    refine awp_cond _ rfl (fun h => ?_) (fun h => (lt_f h24 h).elim)
    refine awp_skip ?_
    refine awp_seq ?_
    refine awp_block ?_
    refine awp_seq ?_
    refine awp_plain hN rfl ?_
    refine seq_run0 (stp_move (.dat _) rfl) ?_
    refine seq_run0 (stp_assign (.dat _) rfl) ?_
    refine awp_plain hN rfl ?_
    refine seq_run0 (stp_move (.dat _) rfl) ?_
    refine seq_run0 (stp_move (.dat _) rfl) ?_
    refine seq_run0 (stp_move (.dat _) rfl) ?_
    refine seq_run0 (t_byte tyU9 rfl rfl h25) ?_
    refine seq_run0 (stp_conv tyU5 tyU2 rfl) ?_
    refine seq_run0 (stp_wrap _ rfl rfl (.inl ⟨rfl, rfl⟩)) ?_
    obtain ⟨r26, h27, H⟩ := bnd H
    refine seq_run0 (stp_call (k_strconv_FormatInt (wr (256 + (IntKind.wrap .i64 (x6.toNat : Int)))) 2 r26 h27) ⟨.inl rfl, .inl rfl, trivial⟩) ?_
    obtain ⟨l28, h29, H⟩ := bnd H
    refine seq_run0 (t_subS tyU9 rfl rfl rfl h29) ?_
    obtain ⟨h30, H⟩ := gif H
    refine seq_run0 (stp_sadd rfl rfl (Nat.le_trans h30 (by decide))) ?_
    refine seq_run0 (stp_assign (.dat _) rfl) ?_
    refine awp_plain hN rfl ?_
    refine seq_run0 (stp_add rfl rfl (by omega)) ?_
    refine seq_run0 (stp_move (.dat _) rfl) ?_
    exact ⟨_, backl H, ⟨rfl, rfl, rfl, rfl, trivial⟩, trivial⟩
theorem k_strings_Repeat (s : Bs) (n : Int) (r : Bs) (H : m_strings_Repeat s n = some r) : Fn Tryd.prog 20 [vstr s, vint n] (resOf [vstr r]) := by
  obtain ⟨h0, h1, h2, rfl⟩ := repeat_some H
  obtain ⟨c, rfl⟩ := Int.eq_ofNat_of_zero_le h0
  refine fn_of_calls (by kernel_rfl) fun M w vs h => ?_
  have hv := Ts_vals (us := [.string ⟨s.toArray⟩, .int .i64 c]) h
  subst hv
  have hs : (ByteArray.mk s.toArray).size = s.length := by simp [ByteArray.size]
  refine (Tryd.strings_Repeat ⟨s.toArray⟩ c w (by omega) (by rw [hs]; exact Nat.le_trans (Nat.mul_le_mul h2 (show c ≤ 1000000 by omega)) (by decide))).mono ?_
  rintro e w' ⟨rfl, hb⟩
  exact ⟨_, rfl, by simp [resOf, vstr, vval], Kp.of_below hb⟩
end Go.Proofs.YtiilgjigelbkcaaDoor
