/- Walks along the models. Printed by a program. -/
import Derived.Test.YtbejggfkfaibeaaGreatDoorYhc
namespace Go.Proofs.YtbejggfkfaibeaaGreatDoor
open Go.RowKit
set_option linter.unusedVariables false
set_option maxRecDepth 20000
theorem k_gatemake_Below (x1 : Int) (n2 : Int) (r : (Int)) (H : m_gatemake_Below x1 n2 = some r) : Fn Tryz.prog 133 [vint x1, vint n2] (resOf [vint r]) := by
  refine ⟨by kernel_rfl, pure_of (us := [vint r]) Tryz.func133 rfl rfl rfl rfl fun X hN => ?_⟩
  unfold m_gatemake_Below at H
  refine awp_seq ?_
  refine awp_plain hN rfl ?_
  refine seq_run0 (stp_assign (.dat _) rfl) ?_
  refine awp_seq ?_
  refine awp_seq ?_
  refine awp_plain hN rfl ?_
  refine seq_run0 (stp_move (.dat _) rfl) ?_
  refine seq_run0 (stp_lss rfl rfl) ?_
  refine awp_cond _ rfl (fun h3 => ?_) (fun h3 => ?_)
  · replace H := ift h3 H
    refine awp_seq ?_
    refine awp_plain hN rfl ?_
    refine seq_run0 (stp_assign (.dat _) rfl) ?_
    refine awp_ret ?_
    cases H
    exact ⟨trivial, .inl rfl, trivial⟩
  · replace H := iff_ h3 H
    refine awp_skip ?_
    refine awp_seq ?_
    refine awp_plain hN rfl ?_
    refine seq_run0 (stp_move (.dat _) rfl) ?_
    refine seq_run0 (stp_move (.dat _) rfl) ?_
    obtain ⟨h4, H⟩ := gif H
    refine seq_run0 (stp_remT rfl rfl h4) ?_
    refine seq_run0 (stp_assign (.dat _) rfl) ?_
    refine awp_joinE (ι := Int) (fun i => [(0, .dat (vint i))]) (fun i => []) (fun i => gatemake_Below_J1 i = some r) (fun i => rfl) ?_ ?_
    · skip
      refine awp_seq ?_
      refine awp_plain hN rfl ?_
      refine seq_run0 (stp_move (.dat _) rfl) ?_
      refine seq_run0 (stp_lss rfl rfl) ?_
      refine awp_cond _ rfl (fun h5 => ?_) (fun h5 => ?_)
      · replace H := ift h5 H
        refine awp_plain hN rfl ?_
        refine seq_run0 (stp_move (.dat _) rfl) ?_
        refine seq_run0 (stp_move (.dat _) rfl) ?_
        refine seq_run0 (stp_wrap _ rfl rfl (.inl ⟨rfl, rfl⟩)) ?_
        refine seq_run0 (stp_assign (.dat _) rfl) ?_
        exact ⟨wr ((Int.tmod x1 n2) + n2), H, ⟨rfl, trivial⟩, trivial⟩
      · replace H := iff_ h5 H
        refine awp_skip ?_
        exact ⟨(Int.tmod x1 n2), H, ⟨rfl, trivial⟩, trivial⟩
    · rintro x6 H
      replace H : gatemake_Below_J1 x6 = some r := H
      unfold gatemake_Below_J1 at H
      refine awp_seq ?_
      refine awp_plain hN rfl ?_
      refine seq_run0 (stp_move (.dat _) rfl) ?_
      refine seq_run0 (stp_assign (.dat _) rfl) ?_
      refine awp_ret ?_
      cases H
      exact ⟨trivial, .inl rfl, trivial⟩
theorem k_gatemake_Stream_Next (s1 : S_gatemake_Stream) (n2 : Int) (r : (Int × S_gatemake_Stream)) (H : m_gatemake_Stream_Next s1 n2 = some r) : Imp Tryz.prog 62 25 (C_gatemake_Stream s1) [vint n2] (resOf [vint r.1]) (C_gatemake_Stream r.2) := by
  refine imp_of (us := [vint r.1]) (cs' := (C_gatemake_Stream r.2)) (by kernel_rfl) Tryz.func62 rfl rfl rfl rfl fun X bl hN => ?_
  unfold m_gatemake_Stream_Next at H
  refine awp_seq ?_
  refine awp_plain hN rfl ?_
  refine seq_run0 (stp_assign (.dat _) rfl) ?_
  refine awp_seq ?_
  refine awp_plain hN rfl ?_
  refine seq_run0 (stp_move (.ptr _ _) rfl) ?_
  refine seq_run0 (stp_nilP rfl) ?_
  refine seq_run0 (stp_fldP tyF25_1 rfl) ?_
  refine seq_run1 (stp_load1 tyS3 rfl rfl) rfl ?_
  refine seq_run0 (stp_wrap _ rfl rfl (.inl ⟨rfl, rfl⟩)) ?_
  refine seq_run0 (stp_nilP rfl) ?_
  refine seq_run0 (stp_fldP tyF25_1 rfl) ?_
  refine seq_run2 (stp_store1 tyS3 rfl rfl rfl rfl) rfl ?_
  refine awp_seq ?_
  refine awp_seq ?_
  refine awp_plain hN rfl ?_
  refine seq_run0 (stp_move (.ptr _ _) rfl) ?_
  refine seq_run0 (stp_nilP rfl) ?_
  refine seq_run0 (stp_fldP tyF25_0 rfl) ?_
  refine seq_run1 (stp_load1 tyS22 rfl rfl) rfl ?_
  refine seq_run0 (t_len tyU22 rfl) ?_
  refine seq_run0 (stp_eql rfl rfl) ?_
  refine awp_cond _ rfl (fun h3 => ?_) (fun h3 => ?_)
  · replace H := ift h3 H
    refine awp_seq ?_
    refine awp_plain hN rfl ?_
    refine seq_run0 (stp_move (.ptr _ _) rfl) ?_
    refine seq_run0 (stp_nilP rfl) ?_
    refine seq_run0 (stp_fldP tyF25_1 rfl) ?_
    refine seq_run1 (stp_load1 tyS3 rfl rfl) rfl ?_
    refine seq_run0 (stp_wrap _ rfl rfl (.inr (.inr ⟨rfl, rfl⟩))) ?_
    refine seq_run0 (stp_move (.dat _) rfl) ?_
    obtain ⟨r4, h5, H⟩ := bnd H
    refine seq_run0 (stp_call (k_gatemake_Below (wr ((wr (s1.at_ + 1)) * 7919)) n2 r4 h5) ⟨.inl rfl, .inl rfl, trivial⟩) ?_
    refine seq_run0 (stp_assign (.dat _) rfl) ?_
    refine awp_ret ?_
    cases H
    exact ⟨trivial, ⟨.inl rfl, trivial⟩, rfl⟩
  · replace H := iff_ h3 H
    refine awp_skip ?_
    refine awp_seq ?_
    refine awp_draw mixed hN rfl rfl ?_
    refine seq_run0 (stp_move (.ptr _ _) rfl) ?_
    refine seq_run0 (stp_nilP rfl) ?_
    refine seq_run0 (stp_fldP tyF25_1 rfl) ?_
    refine seq_run1 (stp_load1 tyS3 rfl rfl) rfl ?_
    refine seq_run0 (stp_wrap _ rfl rfl (.inr (.inl ⟨rfl, rfl⟩))) ?_
    refine seq_run0 (stp_move (.ptr _ _) rfl) ?_
    refine seq_run0 (stp_nilP rfl) ?_
    refine seq_run0 (stp_fldP tyF25_0 rfl) ?_
    refine seq_run1 (stp_load1 tyS22 rfl rfl) rfl ?_
    refine seq_run0 (t_len tyU22 rfl) ?_
    obtain ⟨h6, H⟩ := gif H
    refine seq_run0 (stp_remT rfl rfl h6) ?_
    refine seq_run0 (stp_assign (.dat _) rfl) ?_
    refine ⟨rfl, ?_⟩
    refine awp_seq ?_
    refine awp_draw mixed hN rfl rfl ?_
    refine seq_run0 (stp_move (.ptr _ _) rfl) ?_
    refine seq_run0 (stp_nilP rfl) ?_
    refine seq_run0 (stp_fldP tyF25_1 rfl) ?_
    refine seq_run1 (stp_load1 tyS3 rfl rfl) rfl ?_
    refine seq_run0 (stp_wrap _ rfl rfl (.inr (.inl ⟨rfl, rfl⟩))) ?_
    refine seq_run0 (stp_move (.ptr _ _) rfl) ?_
    refine seq_run0 (stp_nilP rfl) ?_
    refine seq_run0 (stp_fldP tyF25_0 rfl) ?_
    refine seq_run1 (stp_load1 tyS22 rfl rfl) rfl ?_
    refine seq_run0 (t_len tyU22 rfl) ?_
    obtain ⟨h7, H⟩ := gif H
    refine seq_run0 (stp_quo rfl rfl h7.1 h7.2) ?_
    refine seq_run0 (stp_assign (.dat _) rfl) ?_
    refine ⟨rfl, ?_⟩
    refine awp_seq ?_
    refine awp_plain hN rfl ?_
    refine seq_run0 (stp_move (.ptr _ _) rfl) ?_
    refine seq_run0 (stp_nilP rfl) ?_
    refine seq_run0 (stp_fldP tyF25_0 rfl) ?_
    refine seq_run1 (stp_load1 tyS22 rfl rfl) rfl ?_
    refine seq_run0 (stp_move (.dat _) rfl) ?_
    obtain ⟨x8, h9, H⟩ := bnd H
    refine seq_run0 (t_idxI tyE22 (fun _ => rfl) rfl rfl h9) ?_
    refine seq_run0 (stp_loadE1 tyS3 rfl (map_at (at_some h9).2) rfl) ?_
    obtain ⟨r10, h11, H⟩ := bnd H
    refine seq_run0 (stp_call (k_gatemake_Below x8 1073741824 r10 h11) ⟨.inl rfl, .inl rfl, trivial⟩) ?_
    refine seq_run0 (stp_move (.dat _) rfl) ?_
    refine seq_run0 (stp_move (.dat _) rfl) ?_
    refine seq_run0 (stp_wrap _ rfl rfl (.inl ⟨rfl, rfl⟩)) ?_
    refine seq_run0 (stp_wrap _ rfl rfl (.inr (.inr ⟨rfl, rfl⟩))) ?_
    refine seq_run0 (stp_wrap _ rfl rfl (.inl ⟨rfl, rfl⟩)) ?_
    refine seq_run0 (stp_move (.dat _) rfl) ?_
    obtain ⟨r12, h13, H⟩ := bnd H
    refine seq_run0 (stp_call (k_gatemake_Below (wr (r10 + (wr (((wr ((wr (s1.at_ + 1)) - 1)) / (s1.L.length : Int)) * (wr (7919 + (Int.tmod (wr ((wr (s1.at_ + 1)) - 1)) (s1.L.length : Int)))))))) n2 r12 h13) ⟨.inl rfl, .inl rfl, trivial⟩) ?_
    refine seq_run0 (stp_assign (.dat _) rfl) ?_
    refine awp_ret ?_
    cases H
    exact ⟨trivial, ⟨.inl rfl, trivial⟩, rfl⟩
theorem k_gatemake_Stream_Some (s1 : S_gatemake_Stream) (l2 : (List Bs)) (r : (Bs × S_gatemake_Stream)) (H : m_gatemake_Stream_Some s1 l2 = some r) : Imp Tryz.prog 21 25 (C_gatemake_Stream s1) [vlst (List.map C_string l2)] (resOf [vstr r.1]) (C_gatemake_Stream r.2) := by
  refine imp_of (us := [vstr r.1]) (cs' := (C_gatemake_Stream r.2)) (by kernel_rfl) Tryz.func21 rfl rfl rfl rfl fun X bl hN => ?_
  unfold m_gatemake_Stream_Some at H
  refine awp_seq ?_
  refine awp_plain hN rfl ?_
  refine seq_run0 (stp_assign (.dat _) rfl) ?_
  refine awp_seq ?_
  refine awp_plain hN rfl ?_
  refine seq_run0 (stp_move (.dat _) rfl) ?_
  refine seq_run0 (stp_move (.ptr _ _) rfl) ?_
  refine seq_run0 (stp_move (.dat _) rfl) ?_
  refine seq_run0 (t_len tyU41 rfl) ?_
  obtain ⟨r3, h4, H⟩ := bnd H
  refine seq_run2 (stp_imp (k_gatemake_Stream_Next s1 (l2.length : Int) r3 h4) rfl ⟨.inl rfl, trivial⟩ rfl) rfl ?_
  obtain ⟨x5, h6, H⟩ := bnd H
  refine seq_run0 (t_idxI tyE41 (fun _ => rfl) rfl rfl h6) ?_
  refine seq_run0 (stp_loadE1 tyS9 rfl (map_at (at_some h6).2) rfl) ?_
  refine seq_run0 (stp_assign (.dat _) rfl) ?_
  refine awp_ret ?_
  cases H
  exact ⟨trivial, ⟨.inl rfl, trivial⟩, rfl⟩
theorem k_gatemake_Stream_Pick (s1 : S_gatemake_Stream) (l2 : (List Int)) (r : (Int × S_gatemake_Stream)) (H : m_gatemake_Stream_Pick s1 l2 = some r) : Imp Tryz.prog 23 25 (C_gatemake_Stream s1) [vlst (List.map C_int l2)] (resOf [vint r.1]) (C_gatemake_Stream r.2) := by
  refine imp_of (us := [vint r.1]) (cs' := (C_gatemake_Stream r.2)) (by kernel_rfl) Tryz.func23 rfl rfl rfl rfl fun X bl hN => ?_
  unfold m_gatemake_Stream_Pick at H
  refine awp_seq ?_
  refine awp_plain hN rfl ?_
  refine seq_run0 (stp_assign (.dat _) rfl) ?_
  refine awp_seq ?_
  refine awp_plain hN rfl ?_
  refine seq_run0 (stp_move (.dat _) rfl) ?_
  refine seq_run0 (stp_move (.ptr _ _) rfl) ?_
  refine seq_run0 (stp_move (.dat _) rfl) ?_
  refine seq_run0 (t_len tyU22 rfl) ?_
  obtain ⟨r3, h4, H⟩ := bnd H
  refine seq_run2 (stp_imp (k_gatemake_Stream_Next s1 (l2.length : Int) r3 h4) rfl ⟨.inl rfl, trivial⟩ rfl) rfl ?_
  obtain ⟨x5, h6, H⟩ := bnd H
  refine seq_run0 (t_idxI tyE22 (fun _ => rfl) rfl rfl h6) ?_
  refine seq_run0 (stp_loadE1 tyS3 rfl (map_at (at_some h6).2) rfl) ?_
  refine seq_run0 (stp_assign (.dat _) rfl) ?_
  refine awp_ret ?_
  cases H
  exact ⟨trivial, ⟨.inl rfl, trivial⟩, rfl⟩
theorem k_strings_Repeat (s : Bs) (n : Int) (r : Bs) (H : m_strings_Repeat s n = some r) : Fn Tryz.prog 65 [vstr s, vint n] (resOf [vstr r]) := by
  obtain ⟨h0, h1, h2, rfl⟩ := repeat_some H
  obtain ⟨c, rfl⟩ := Int.eq_ofNat_of_zero_le h0
  refine fn_of_calls (by kernel_rfl) fun M w vs h => ?_
  have hv := Ts_vals (us := [.string ⟨s.toArray⟩, .int .i64 c]) h
  subst hv
  have hs : (ByteArray.mk s.toArray).size = s.length := by simp [ByteArray.size]
  refine (Tryz.strings_Repeat ⟨s.toArray⟩ c w (by omega) (by rw [hs]; exact Nat.le_trans (Nat.mul_le_mul h2 (show c ≤ 1000000 by omega)) (by decide))).mono ?_
  rintro e w' ⟨rfl, hb⟩
  exact ⟨_, rfl, by simp [resOf, vstr, vval], Kp.of_below hb⟩
theorem k_internal_strconv_small (i1 : Int) (r : (Bs)) (H : m_internal_strconv_small i1 = some r) : Fn Tryz.prog 216 [vint i1] (resOf [vstr r]) := by
  refine ⟨by kernel_rfl, pure_of (us := [vstr r]) Tryz.func216 rfl rfl rfl rfl fun X hN => ?_⟩
  unfold m_internal_strconv_small at H
  refine awp_seq ?_
  refine awp_plain hN rfl ?_
  refine seq_run0 (stp_assign (.dat _) rfl) ?_
  refine awp_seq ?_
  refine awp_seq ?_
  refine awp_plain hN rfl ?_
  refine seq_run0 (stp_move (.dat _) rfl) ?_
  refine seq_run0 (stp_lss rfl rfl) ?_
  refine awp_cond _ rfl (fun h2 => ?_) (fun h2 => ?_)
  · replace H := ift h2 H
    refine awp_seq ?_
    refine awp_plain hN rfl ?_
    refine seq_run0 (stp_move (.dat _) rfl) ?_
    refine seq_run0 (stp_move (.dat _) rfl) ?_
    refine seq_run0 (stp_wrap _ rfl rfl (.inl ⟨rfl, rfl⟩)) ?_
    obtain ⟨l3, h4, H⟩ := bnd H
    refine seq_run0 (t_subS tyU9 rfl rfl rfl h4) ?_
    refine seq_run0 (stp_assign (.dat _) rfl) ?_
    refine awp_ret ?_
    cases H
    exact ⟨trivial, .inl rfl, trivial⟩
  · replace H := iff_ h2 H
    refine awp_skip ?_
    refine awp_seq ?_
    refine awp_plain hN rfl ?_
    refine seq_run0 (stp_move (.dat _) rfl) ?_
    refine seq_run0 (stp_wrap _ rfl rfl (.inr (.inr ⟨rfl, rfl⟩))) ?_
    refine seq_run0 (stp_move (.dat _) rfl) ?_
    refine seq_run0 (stp_wrap _ rfl rfl (.inr (.inr ⟨rfl, rfl⟩))) ?_
    refine seq_run0 (stp_wrap _ rfl rfl (.inl ⟨rfl, rfl⟩)) ?_
    obtain ⟨l5, h6, H⟩ := bnd H
    refine seq_run0 (t_subS tyU9 rfl rfl rfl h6) ?_
    refine seq_run0 (stp_assign (.dat _) rfl) ?_
    refine awp_ret ?_
    cases H
    exact ⟨trivial, .inl rfl, trivial⟩
theorem k_math_bits_Len64 (x1 : Int) (r : (Int)) (H : m_math_bits_Len64 x1 = some r) : Fn Tryz.prog 243 [vval (.int .u64 x1)] (resOf [vint r]) := by
  refine ⟨by kernel_rfl, pure_of (us := [vint r]) Tryz.func243 rfl rfl rfl rfl fun X hN => ?_⟩
  unfold m_math_bits_Len64 at H
  refine awp_seq ?_
  refine awp_plain hN rfl ?_
  refine seq_run0 (stp_assign (.dat _) rfl) ?_
  refine awp_joinE (ι := Int × Int) (fun i => [(0, .dat (vval (.int .u64 i.1))), (2, .dat (vint i.2))]) (fun i => []) (fun i => math_bits_Len64_J1 i.1 i.2 = some r) (fun i => rfl) ?_ ?_
  · skip
    refine awp_seq ?_
    refine awp_plain hN rfl ?_
    refine seq_run0 (stp_move (.dat _) rfl) ?_
    refine seq_run0 (stp_geq rfl rfl) ?_
    refine awp_cond _ rfl (fun h2 => ?_) (fun h2 => ?_)
    · replace H := ift h2 H
      refine awp_seq ?_
      refine awp_plain hN rfl ?_
      refine seq_run0 (stp_move (.dat _) rfl) ?_
      refine seq_run0 (stp_dat (stp_shr rfl rfl (by decide)) rfl) ?_
      refine seq_run0 (stp_assign (.dat _) rfl) ?_
      refine awp_plain hN rfl ?_
      refine seq_run0 (stp_assign (.dat _) rfl) ?_
      exact ⟨((shr_ .u64 x1 32), 32), H, ⟨rfl, rfl, trivial⟩, trivial⟩
    · replace H := iff_ h2 H
      refine awp_skip ?_
      exact ⟨(x1, 0), H, ⟨rfl, rfl, trivial⟩, trivial⟩
  · rintro ⟨x3, n4⟩ H
    replace H : math_bits_Len64_J1 x3 n4 = some r := H
    unfold math_bits_Len64_J1 at H
    refine awp_joinE (ι := Int × Int) (fun i => [(0, .dat (vval (.int .u64 i.1))), (2, .dat (vint i.2))]) (fun i => []) (fun i => math_bits_Len64_J2 i.1 i.2 = some r) (fun i => rfl) ?_ ?_
    · skip
      refine awp_seq ?_
      refine awp_plain hN rfl ?_
      refine seq_run0 (stp_move (.dat _) rfl) ?_
      refine seq_run0 (stp_geq rfl rfl) ?_
      refine awp_cond _ rfl (fun h5 => ?_) (fun h5 => ?_)
      · replace H := ift h5 H
        refine awp_seq ?_
        refine awp_plain hN rfl ?_
        refine seq_run0 (stp_move (.dat _) rfl) ?_
        refine seq_run0 (stp_dat (stp_shr rfl rfl (by decide)) rfl) ?_
        refine seq_run0 (stp_assign (.dat _) rfl) ?_
        refine awp_plain hN rfl ?_
        refine seq_run0 (stp_move (.dat _) rfl) ?_
        refine seq_run0 (stp_wrap _ rfl rfl (.inl ⟨rfl, rfl⟩)) ?_
        refine seq_run0 (stp_assign (.dat _) rfl) ?_
        exact ⟨((shr_ .u64 x3 16), wr (n4 + 16)), H, ⟨rfl, rfl, trivial⟩, trivial⟩
      · replace H := iff_ h5 H
        refine awp_skip ?_
        exact ⟨(x3, n4), H, ⟨rfl, rfl, trivial⟩, trivial⟩
    · rintro ⟨x6, n7⟩ H
      replace H : math_bits_Len64_J2 x6 n7 = some r := H
      unfold math_bits_Len64_J2 at H
      refine awp_joinE (ι := Int × Int) (fun i => [(0, .dat (vval (.int .u64 i.1))), (2, .dat (vint i.2))]) (fun i => []) (fun i => math_bits_Len64_J3 i.1 i.2 = some r) (fun i => rfl) ?_ ?_
      · skip
        refine awp_seq ?_
        refine awp_plain hN rfl ?_
        refine seq_run0 (stp_move (.dat _) rfl) ?_
        refine seq_run0 (stp_geq rfl rfl) ?_
        refine awp_cond _ rfl (fun h8 => ?_) (fun h8 => ?_)
        · replace H := ift h8 H
          refine awp_seq ?_
          refine awp_plain hN rfl ?_
          refine seq_run0 (stp_move (.dat _) rfl) ?_
          refine seq_run0 (stp_dat (stp_shr rfl rfl (by decide)) rfl) ?_
          refine seq_run0 (stp_assign (.dat _) rfl) ?_
          refine awp_plain hN rfl ?_
          refine seq_run0 (stp_move (.dat _) rfl) ?_
          refine seq_run0 (stp_wrap _ rfl rfl (.inl ⟨rfl, rfl⟩)) ?_
          refine seq_run0 (stp_assign (.dat _) rfl) ?_
          exact ⟨((shr_ .u64 x6 8), wr (n7 + 8)), H, ⟨rfl, rfl, trivial⟩, trivial⟩
        · replace H := iff_ h8 H
          refine awp_skip ?_
          exact ⟨(x6, n7), H, ⟨rfl, rfl, trivial⟩, trivial⟩
      · rintro ⟨x9, n10⟩ H
        replace H : math_bits_Len64_J3 x9 n10 = some r := H
        unfold math_bits_Len64_J3 at H
        refine awp_seq ?_
        refine awp_plain hN rfl ?_
        refine seq_run0 (stp_move (.dat _) rfl) ?_
        refine seq_run0 (stp_move (.dat _) rfl) ?_
        refine seq_run0 (stp_conv tyU166 tyU5 rfl) ?_
        obtain ⟨x11, h12, H⟩ := bnd H
        refine seq_run0 (t_byteK tyU9 rfl rfl h12) ?_
        refine seq_run0 (stp_conv tyU5 tyU3 rfl) ?_
        refine seq_run0 (stp_wrap _ rfl rfl (.inl ⟨rfl, rfl⟩)) ?_
        refine seq_run0 (stp_assign (.dat _) rfl) ?_
        refine awp_ret ?_
        cases H
        exact ⟨trivial, .inl rfl, trivial⟩
theorem k_internal_strconv_log10Pow2 (x1 : Int) (r : (Int)) (H : m_internal_strconv_log10Pow2 x1 = some r) : Fn Tryz.prog 242 [vint x1] (resOf [vint r]) := by
  refine ⟨by kernel_rfl, pure_of (us := [vint r]) Tryz.func242 rfl rfl rfl rfl fun X hN => ?_⟩
  unfold m_internal_strconv_log10Pow2 at H
  refine awp_seq ?_
  refine awp_plain hN rfl ?_
  refine seq_run0 (stp_assign (.dat _) rfl) ?_
  refine awp_seq ?_
  refine awp_plain hN rfl ?_
  refine seq_run0 (stp_move (.dat _) rfl) ?_
  refine seq_run0 (stp_wrap _ rfl rfl (.inr (.inr ⟨rfl, rfl⟩))) ?_
  refine seq_run0 (stp_dat (stp_shr rfl rfl (by decide)) rfl) ?_
  refine seq_run0 (stp_assign (.dat _) rfl) ?_
  refine awp_ret ?_
  cases H
  exact ⟨trivial, .inl rfl, trivial⟩
theorem k_internal_strconv_isPowerOfTwo (x1 : Int) (r : (Bool)) (H : m_internal_strconv_isPowerOfTwo x1 = some r) : Fn Tryz.prog 245 [vint x1] (resOf [vbool r]) := by
  refine ⟨by kernel_rfl, pure_of (us := [vbool r]) Tryz.func245 rfl rfl rfl rfl fun X hN => ?_⟩
  unfold m_internal_strconv_isPowerOfTwo at H
  refine awp_seq ?_
  refine awp_plain hN rfl ?_
  refine seq_run0 (stp_assign (.dat _) rfl) ?_
  refine awp_seq ?_
  refine awp_plain hN rfl ?_
  refine seq_run0 (stp_move (.dat _) rfl) ?_
  refine seq_run0 (stp_move (.dat _) rfl) ?_
  refine seq_run0 (stp_wrap _ rfl rfl (.inr (.inl ⟨rfl, rfl⟩))) ?_
  refine seq_run0 (stp_dat (stp_and rfl rfl) rfl) ?_
  refine seq_run0 (stp_eql rfl rfl) ?_
  refine seq_run0 (stp_assign (.dat _) rfl) ?_
  refine awp_ret ?_
  cases H
  exact ⟨trivial, .inl rfl, trivial⟩
theorem k_bits_TrailingZeros (x r : Int) (H : m_bits_TrailingZeros x = some r) : Fn Tryz.prog 246 [vval (.int .u64 x)] (resOf [vint r]) := by
  obtain ⟨h0, h1, rfl⟩ := tz_some H
  obtain ⟨n, rfl⟩ := Int.eq_ofNat_of_zero_le h0
  refine fn_of_callsG (by kernel_rfl) fun M w vs hM h => ?_
  have hv := Ts_vals (us := [.int .u64 (n : Int)]) h
  subst hv
  refine (Any7.bits_TrailingZeros Tryz.tz246 n (by omega) w (fun _ => tab_cell hM)).mono ?_
  rintro e w' ⟨rfl, rfl⟩
  exact ⟨_, rfl, rfl, Kp.refl _ _⟩
theorem k_internal_strconv_formatBits (v1 : (List Int)) (v2 : Int) (v3 : Int) (v4 : Bool) (v5 : Bool) (r : ((List Int) × Bs)) (H : m_internal_strconv_formatBits v1 v2 v3 v4 v5 = some r) : Fn Tryz.prog 219 [vlst (List.map C_uint8 v1), vval (.int .u64 v2), vint v3, vbool v4, vbool v5] (resOf [vlst (List.map C_uint8 r.1), vstr r.2]) := by
  refine ⟨by kernel_rfl, pure_of (us := [vlst (List.map C_uint8 r.1), vstr r.2]) Tryz.func219 rfl rfl rfl rfl fun X hN => ?_⟩
  unfold m_internal_strconv_formatBits at H
  refine awp_seq ?_
  refine awp_plain hN rfl ?_
  refine seq_run0 (stp_assign (.dat _) rfl) ?_
  refine seq_run0 (stp_assign (.dat _) rfl) ?_
  refine awp_seq ?_
  refine awp_seq ?_
  refine awp_plain hN rfl ?_
  refine seq_run0 (stp_move (.dat _) rfl) ?_
  refine seq_run0 (stp_lss rfl rfl) ?_
  refine seq_run0 (stp_move (.dat _) rfl) ?_
  refine seq_aF rfl rfl (fun hc => stp_move (.dat _) rfl) ?_
  refine seq_aF rfl rfl (fun hc => stp_eql (cnd (c := (!(decide (v3 < 2)))) hc) rfl) ?_
  refine seq_run0 (stp_pick_or rfl rfl (fun hb => (cnd (c := (!(decide (v3 < 2)))) (notI hb)))) ?_
  refine seq_run0 (stp_move (.dat _) rfl) ?_
  refine seq_aF rfl rfl (fun hc => stp_move (.dat _) rfl) ?_
  refine seq_aF rfl rfl (fun hc => stp_gtr (cnd (c := (!((decide (v3 < 2)) || (decide (v3 = 10))))) hc) rfl) ?_
  refine seq_run0 (stp_pick_or rfl rfl (fun hb => (cnd (c := (!((decide (v3 < 2)) || (decide (v3 = 10))))) (notI hb)))) ?_
  refine awp_cond _ rfl (fun h6 => ?_) (fun h6 => ?_)
  · replace H := ift h6 H
    cases H
  · replace H := iff_ h6 H
    refine awp_skip ?_
    refine awp_seq ?_
    refine awp_plain hN rfl ?_
    refine seq_run2 (t_allocU 1 65 (show tyZ Tryz.prog 234 = some (List.replicate 65 (.int .u8 0)) from by kernel_rfl)) rfl ?_
    refine awp_seq ?_
    refine awp_plain hN rfl ?_
    refine seq_run0 (stp_assign (.dat _) rfl) ?_
    refine awp_joinE (ι := Unit) (fun i => [(0, .dat (vlst (List.map C_uint8 v1))), (1, .dat (vval (.int .u64 v2))), (2, .dat (vint v3)), (3, .dat (vbool v4)), (4, .dat (vbool v5)), (10, .dat (vnil)), (11, .dat (vstr [])), (12, .ptr 1 0), (13, .dat (vint 65))]) (fun i => [(1, .box none 234 (List.map Slot.dat (bxU (List.replicate 65 0))))]) (fun i => internal_strconv_formatBits_J1 v2 v3 v4 v5 = some r) (fun i => okL_and rfl (okA_cons okO_bx okA_nil)) ?_ ?_
    · skip
      refine awp_seq ?_
      refine awp_plain hN rfl ?_
      refine seq_run0 (stp_move (.dat _) rfl) ?_
      refine awp_cond _ rfl (fun h7 => ?_) (fun h7 => ?_)
      · replace H := ift h7 H
        cases H
      · replace H := iff_ h7 H
        refine awp_skip ?_
        exact ⟨(), H, ⟨rfl, rfl, rfl, rfl, rfl, rfl, rfl, rfl, rfl, trivial⟩, ⟨rfl, trivial⟩⟩
    · rintro ⟨⟩ H
      replace H : internal_strconv_formatBits_J1 v2 v3 v4 v5 = some r := H
      unfold internal_strconv_formatBits_J1 at H
      refine awp_joinE (ι := Int × (List Int)) (fun i => [(0, .dat (vlst (List.map C_uint8 v1))), (3, .dat (vbool v4)), (4, .dat (vbool v5)), (10, .dat (vnil)), (11, .dat (vstr [])), (12, .ptr 1 0), (13, .dat (vint i.1))]) (fun i => [(1, .box none 234 (List.map Slot.dat (bxU i.2)))]) (fun i => internal_strconv_formatBits_J2 v4 v5 i.1 i.2 = some r) (fun i => okL_and rfl (okA_cons okO_bx okA_nil)) ?_ ?_
      · skip
        refine awp_seq ?_
        refine awp_plain hN rfl ?_
        refine seq_run0 (stp_move (.dat _) rfl) ?_
        obtain ⟨r8, h9, H⟩ := bnd H
        refine seq_run0 (stp_call (k_internal_strconv_isPowerOfTwo v3 r8 h9) ⟨.inl rfl, trivial⟩) ?_
        refine awp_cond _ rfl (fun h10 => ?_) (fun h10 => ?_)
        · replace H := ift h10 H
          refine awp_seq ?_
          refine awp_plain hN rfl ?_
          refine seq_run0 (stp_move (.dat _) rfl) ?_
          refine seq_run0 (stp_conv tyU3 tyU148 rfl) ?_
          obtain ⟨r11, h12, H⟩ := bnd H
          refine seq_run0 (stp_call (k_bits_TrailingZeros (IntKind.wrap .u64 v3) r11 h12) ⟨.inl rfl, trivial⟩) ?_
          refine seq_run0 (stp_conv tyU3 tyU148 rfl) ?_
          refine seq_run0 (stp_assign (.dat _) rfl) ?_
          refine awp_seq ?_
          refine awp_plain hN rfl ?_
          refine seq_run0 (stp_move (.dat _) rfl) ?_
          refine seq_run0 (stp_conv tyU3 tyU166 rfl) ?_
          refine seq_run0 (stp_assign (.dat _) rfl) ?_
          refine awp_seq ?_
          refine awp_plain hN rfl ?_
          refine seq_run0 (stp_move (.dat _) rfl) ?_
          refine seq_run0 (stp_conv tyU3 tyU148 rfl) ?_
          refine seq_run0 (stp_wrap _ rfl rfl (.inr (.inl ⟨rfl, rfl⟩))) ?_
          refine seq_run0 (stp_assign (.dat _) rfl) ?_
          refine awp_joinE (ι := Int × Int × (List Int)) (fun i => [(0, .dat (vlst (List.map C_uint8 v1))), (1, .dat (vval (.int .u64 i.1))), (3, .dat (vbool v4)), (4, .dat (vbool v5)), (10, .dat (vnil)), (11, .dat (vstr [])), (12, .ptr 1 0), (13, .dat (vint i.2.1))]) (fun i => [(1, .box none 234 (List.map Slot.dat (bxU i.2.2)))]) (fun i => internal_strconv_formatBits_J3 v4 v5 i.1 i.2.1 i.2.2 = some r) (fun i => okL_and rfl (okA_cons okO_bx okA_nil)) ?_ ?_
          · skip
            refine awp_block ?_
            refine awp_iter (fun (s : Int × Int × (List Int)) => [(0, .dat (vlst (List.map C_uint8 v1))), (1, .dat (vval (.int .u64 s.1))), (3, .dat (vbool v4)), (4, .dat (vbool v5)), (10, .dat (vnil)), (11, .dat (vstr [])), (12, .ptr 1 0), (13, .dat (vint s.2.1)), (14, .dat (vval (.int .u64 (IntKind.wrap .u64 r11)))), (15, .dat (vval (.int .u64 (IntKind.wrap .u64 v3)))), (16, .dat (vval (.int .u64 (IntKind.wrap .u64 ((IntKind.wrap .u64 v3) - 1)))))]) (fun (s : Int × Int × (List Int)) => [(1, .box none 234 (List.map Slot.dat (bxU s.2.2)))]) (v2, 65, (List.replicate 65 0)) H ⟨rfl, rfl, rfl, rfl, rfl, rfl, rfl, rfl, rfl, rfl, rfl, trivial⟩ ⟨rfl, trivial⟩ (fun _ => okL_and rfl (okA_cons okO_bx okA_nil)) ?_
            rintro ⟨v13, v14, l15⟩ q16 H hq16
            replace H : internal_strconv_formatBits_L4 v3 v4 v5 r11 v13 v14 l15 = some q16 := H
            unfold internal_strconv_formatBits_L4 at H
            refine awp_seq ?_
            refine awp_seq ?_
            refine awp_plain hN rfl ?_
            refine seq_run0 (stp_move (.dat _) rfl) ?_
            refine seq_run0 (stp_move (.dat _) rfl) ?_
            refine seq_run0 (stp_geq rfl rfl) ?_
            refine awp_cond _ rfl (fun h17 => ?_) (fun h17 => ?_)
            · replace H := ift h17 H
              refine awp_skip ?_
              refine awp_block ?_
              refine awp_seq ?_
              refine awp_plain hN rfl ?_
              refine seq_run0 (stp_move (.dat _) rfl) ?_
              refine seq_run0 (stp_wrap _ rfl rfl (.inr (.inl ⟨rfl, rfl⟩))) ?_
              refine seq_run0 (stp_assign (.dat _) rfl) ?_
              refine awp_seq ?_
              refine awp_plain hN rfl ?_
              refine seq_run0 (stp_move (.dat _) rfl) ?_
              refine seq_run0 (stp_move (.dat _) rfl) ?_
              refine seq_run0 (stp_move (.dat _) rfl) ?_
              refine seq_run0 (stp_dat (stp_and rfl rfl) rfl) ?_
              obtain ⟨x18, h19, H⟩ := bnd H
              refine seq_run0 (t_byteK tyU9 rfl rfl h19) ?_
              obtain ⟨h20, H⟩ := gif H
              refine seq_run0 (t_aidx (show tyA Tryz.prog 234 = some (65, 5, .int .u8) from by kernel_rfl) rfl rfl h20) ?_
              obtain ⟨h21, H⟩ := gif H
              refine seq_run2 (t_storeU (l := l15) tyS5 rfl rfl h21) rfl ?_
              refine awp_plain hN rfl ?_
              refine seq_run0 (stp_move (.dat _) rfl) ?_
              refine seq_run0 (stp_move (.dat _) rfl) ?_
              obtain ⟨h22, H⟩ := gif H
              refine seq_run0 (stp_dat (stp_shr rfl rfl h22) rfl) ?_
              refine seq_run0 (stp_assign (.dat _) rfl) ?_
              exact ⟨_, backl H, ⟨rfl, rfl, rfl, rfl, rfl, rfl, rfl, rfl, rfl, rfl, rfl, trivial⟩, ⟨rfl, trivial⟩⟩
            · replace H := iff_ h17 H
              refine awp_exit ?_
              replace H := outl H hq16
              exact ⟨(v13, v14, l15), H, ⟨rfl, rfl, rfl, rfl, rfl, rfl, rfl, rfl, trivial⟩, ⟨rfl, trivial⟩⟩
          · rintro ⟨v23, v24, l25⟩ H
            replace H : internal_strconv_formatBits_J3 v4 v5 v23 v24 l25 = some r := H
            unfold internal_strconv_formatBits_J3 at H
            refine awp_seq ?_
            refine awp_plain hN rfl ?_
            refine seq_run0 (stp_move (.dat _) rfl) ?_
            refine seq_run0 (stp_wrap _ rfl rfl (.inr (.inl ⟨rfl, rfl⟩))) ?_
            refine seq_run0 (stp_assign (.dat _) rfl) ?_
            refine awp_plain hN rfl ?_
            refine seq_run0 (stp_move (.dat _) rfl) ?_
            refine seq_run0 (stp_move (.dat _) rfl) ?_
            obtain ⟨x26, h27, H⟩ := bnd H
            refine seq_run0 (t_byteK tyU9 rfl rfl h27) ?_
            obtain ⟨h28, H⟩ := gif H
            refine seq_run0 (t_aidx (show tyA Tryz.prog 234 = some (65, 5, .int .u8) from by kernel_rfl) rfl rfl h28) ?_
            obtain ⟨h29, H⟩ := gif H
            refine seq_run2 (t_storeU (l := l25) tyS5 rfl rfl h29) rfl ?_
            exact ⟨(wr (v24 - 1), (l25.set (wr (v24 - 1)).toNat (x26.toNat : Int))), H, ⟨rfl, rfl, rfl, rfl, rfl, rfl, rfl, trivial⟩, ⟨rfl, trivial⟩⟩
        · replace H := iff_ h10 H
          refine awp_seq ?_
          refine awp_plain hN rfl ?_
          refine seq_run0 (stp_move (.dat _) rfl) ?_
          refine seq_run0 (stp_conv tyU3 tyU166 rfl) ?_
          refine seq_run0 (stp_assign (.dat _) rfl) ?_
          refine awp_joinE (ι := Int × Int × (List Int)) (fun i => [(0, .dat (vlst (List.map C_uint8 v1))), (1, .dat (vval (.int .u64 i.1))), (3, .dat (vbool v4)), (4, .dat (vbool v5)), (10, .dat (vnil)), (11, .dat (vstr [])), (12, .ptr 1 0), (13, .dat (vint i.2.1))]) (fun i => [(1, .box none 234 (List.map Slot.dat (bxU i.2.2)))]) (fun i => internal_strconv_formatBits_J5 v4 v5 i.1 i.2.1 i.2.2 = some r) (fun i => okL_and rfl (okA_cons okO_bx okA_nil)) ?_ ?_
          · skip
            refine awp_block ?_
            refine awp_iter (fun (s : Int × Int × (List Int)) => [(0, .dat (vlst (List.map C_uint8 v1))), (1, .dat (vval (.int .u64 s.1))), (3, .dat (vbool v4)), (4, .dat (vbool v5)), (10, .dat (vnil)), (11, .dat (vstr [])), (12, .ptr 1 0), (13, .dat (vint s.2.1)), (17, .dat (vval (.int .u64 (IntKind.wrap .u64 v3))))]) (fun (s : Int × Int × (List Int)) => [(1, .box none 234 (List.map Slot.dat (bxU s.2.2)))]) (v2, 65, (List.replicate 65 0)) H ⟨rfl, rfl, rfl, rfl, rfl, rfl, rfl, rfl, rfl, trivial⟩ ⟨rfl, trivial⟩ (fun _ => okL_and rfl (okA_cons okO_bx okA_nil)) ?_
            rintro ⟨v30, v31, l32⟩ q33 H hq33
            replace H : internal_strconv_formatBits_L6 v3 v4 v5 v30 v31 l32 = some q33 := H
            unfold internal_strconv_formatBits_L6 at H
            refine awp_seq ?_
            refine awp_seq ?_
            refine awp_plain hN rfl ?_
            refine seq_run0 (stp_move (.dat _) rfl) ?_
            refine seq_run0 (stp_move (.dat _) rfl) ?_
            refine seq_run0 (stp_geq rfl rfl) ?_
            refine awp_cond _ rfl (fun h34 => ?_) (fun h34 => ?_)
            · replace H := ift h34 H
              refine awp_skip ?_
              refine awp_block ?_
              refine awp_seq ?_
              refine awp_plain hN rfl ?_
              refine seq_run0 (stp_move (.dat _) rfl) ?_
              refine seq_run0 (stp_wrap _ rfl rfl (.inr (.inl ⟨rfl, rfl⟩))) ?_
              refine seq_run0 (stp_assign (.dat _) rfl) ?_
              refine awp_seq ?_
              refine awp_plain hN rfl ?_
              refine seq_run0 (stp_move (.dat _) rfl) ?_
              refine seq_run0 (stp_move (.dat _) rfl) ?_
              obtain ⟨h35, H⟩ := gif H
              refine seq_run0 (stp_quoK rfl rfl h35) ?_
              refine seq_run0 (stp_assign (.dat _) rfl) ?_
              refine awp_seq ?_
              refine awp_plain hN rfl ?_
              refine seq_run0 (stp_move (.dat _) rfl) ?_
              refine seq_run0 (stp_move (.dat _) rfl) ?_
              refine seq_run0 (stp_move (.dat _) rfl) ?_
              refine seq_run0 (stp_move (.dat _) rfl) ?_
              refine seq_run0 (stp_wrap _ rfl rfl (.inr (.inr ⟨rfl, rfl⟩))) ?_
              refine seq_run0 (stp_wrap _ rfl rfl (.inr (.inl ⟨rfl, rfl⟩))) ?_
              obtain ⟨x36, h37, H⟩ := bnd H
              refine seq_run0 (t_byteK tyU9 rfl rfl h37) ?_
              obtain ⟨h38, H⟩ := gif H
              refine seq_run0 (t_aidx (show tyA Tryz.prog 234 = some (65, 5, .int .u8) from by kernel_rfl) rfl rfl h38) ?_
              obtain ⟨h39, H⟩ := gif H
              refine seq_run2 (t_storeU (l := l32) tyS5 rfl rfl h39) rfl ?_
              refine awp_plain hN rfl ?_
              refine seq_run0 (stp_move (.dat _) rfl) ?_
              refine seq_run0 (stp_assign (.dat _) rfl) ?_
              exact ⟨_, backl H, ⟨rfl, rfl, rfl, rfl, rfl, rfl, rfl, rfl, rfl, trivial⟩, ⟨rfl, trivial⟩⟩
            · replace H := iff_ h34 H
              refine awp_exit ?_
              replace H := outl H hq33
              exact ⟨(v30, v31, l32), H, ⟨rfl, rfl, rfl, rfl, rfl, rfl, rfl, rfl, trivial⟩, ⟨rfl, trivial⟩⟩
          · rintro ⟨v40, v41, l42⟩ H
            replace H : internal_strconv_formatBits_J5 v4 v5 v40 v41 l42 = some r := H
            unfold internal_strconv_formatBits_J5 at H
            refine awp_seq ?_
            refine awp_plain hN rfl ?_
            refine seq_run0 (stp_move (.dat _) rfl) ?_
            refine seq_run0 (stp_wrap _ rfl rfl (.inr (.inl ⟨rfl, rfl⟩))) ?_
            refine seq_run0 (stp_assign (.dat _) rfl) ?_
            refine awp_plain hN rfl ?_
            refine seq_run0 (stp_move (.dat _) rfl) ?_
            refine seq_run0 (stp_move (.dat _) rfl) ?_
            obtain ⟨x43, h44, H⟩ := bnd H
            refine seq_run0 (t_byteK tyU9 rfl rfl h44) ?_
            obtain ⟨h45, H⟩ := gif H
            refine seq_run0 (t_aidx (show tyA Tryz.prog 234 = some (65, 5, .int .u8) from by kernel_rfl) rfl rfl h45) ?_
            obtain ⟨h46, H⟩ := gif H
            refine seq_run2 (t_storeU (l := l42) tyS5 rfl rfl h46) rfl ?_
            exact ⟨(wr (v41 - 1), (l42.set (wr (v41 - 1)).toNat (x43.toNat : Int))), H, ⟨rfl, rfl, rfl, rfl, rfl, rfl, rfl, trivial⟩, ⟨rfl, trivial⟩⟩
      · rintro ⟨v47, l48⟩ H
        replace H : internal_strconv_formatBits_J2 v4 v5 v47 l48 = some r := H
        unfold internal_strconv_formatBits_J2 at H
        refine awp_joinE (ι := Int × (List Int)) (fun i => [(0, .dat (vlst (List.map C_uint8 v1))), (4, .dat (vbool v5)), (10, .dat (vnil)), (11, .dat (vstr [])), (12, .ptr 1 0), (13, .dat (vint i.1))]) (fun i => [(1, .box none 234 (List.map Slot.dat (bxU i.2)))]) (fun i => internal_strconv_formatBits_J7 v5 i.1 i.2 = some r) (fun i => okL_and rfl (okA_cons okO_bx okA_nil)) ?_ ?_
        · skip
          refine awp_seq ?_
          refine awp_plain hN rfl ?_
          refine seq_run0 (stp_move (.dat _) rfl) ?_
          refine awp_cond _ rfl (fun h49 => ?_) (fun h49 => ?_)
          · replace H := ift h49 H
            refine awp_seq ?_
            refine awp_plain hN rfl ?_
            refine seq_run0 (stp_move (.dat _) rfl) ?_
            refine seq_run0 (stp_wrap _ rfl rfl (.inr (.inl ⟨rfl, rfl⟩))) ?_
            refine seq_run0 (stp_assign (.dat _) rfl) ?_
            refine awp_plain hN rfl ?_
            refine seq_run0 (stp_move (.dat _) rfl) ?_
            obtain ⟨h50, H⟩ := gif H
            refine seq_run0 (t_aidx (show tyA Tryz.prog 234 = some (65, 5, .int .u8) from by kernel_rfl) rfl rfl h50) ?_
            obtain ⟨h51, H⟩ := gif H
            refine seq_run2 (t_storeU (l := l48) tyS5 rfl rfl h51) rfl ?_
            exact ⟨(wr (v47 - 1), (l48.set (wr (v47 - 1)).toNat 45)), H, ⟨rfl, rfl, rfl, rfl, rfl, rfl, trivial⟩, ⟨rfl, trivial⟩⟩
          · replace H := iff_ h49 H
            refine awp_skip ?_
            exact ⟨(v47, l48), H, ⟨rfl, rfl, rfl, rfl, rfl, rfl, trivial⟩, ⟨rfl, trivial⟩⟩
        · rintro ⟨v52, l53⟩ H
          replace H : internal_strconv_formatBits_J7 v5 v52 l53 = some r := H
          unfold internal_strconv_formatBits_J7 at H
          refine awp_seq ?_
          refine awp_seq ?_
          refine awp_plain hN rfl ?_
          refine seq_run0 (stp_move (.dat _) rfl) ?_
          refine awp_cond _ rfl (fun h54 => ?_) (fun h54 => ?_)
          · replace H := ift h54 H
            cases H
          · replace H := iff_ h54 H
            refine awp_skip ?_
            refine awp_seq ?_
            refine awp_frzB 1 (bxU l53) rfl rfl ?_
            refine awp_plain hN rfl ?_
            refine seq_run0 (stp_move (.dat _) rfl) ?_
            obtain ⟨h55, H⟩ := gif H
            obtain ⟨h56, H⟩ := gif H
            refine seq_run0 (t_aslice (C := C_uint8) (show tyA Tryz.prog 234 = some (65, 5, .int .u8) from by kernel_rfl) rfl h55 rfl h56 (fun _ => rfl)) ?_
            refine seq_run0 (stp_convB (C := C_uint8) tyU46 tyU5 tyU9 (fun _ => rfl) rfl) ?_
            refine seq_run0 (stp_assign (.dat _) rfl) ?_
            refine awp_ret ?_
            cases H
            exact ⟨trivial, .inr ⟨rfl, rfl⟩, .inl rfl, trivial⟩
theorem k_internal_strconv_FormatInt (i1 : Int) (base2 : Int) (r : (Bs)) (H : m_internal_strconv_FormatInt i1 base2 = some r) : Fn Tryz.prog 184 [vint i1, vint base2] (resOf [vstr r]) := by
  refine ⟨by kernel_rfl, pure_of (us := [vstr r]) Tryz.func184 rfl rfl rfl rfl fun X hN => ?_⟩
  unfold m_internal_strconv_FormatInt at H
  refine awp_seq ?_
  refine awp_plain hN rfl ?_
  refine seq_run0 (stp_assign (.dat _) rfl) ?_
  refine awp_seq ?_
  refine awp_seq ?_
  refine awp_plain hN rfl ?_
  refine seq_run0 (stp_move (.dat _) rfl) ?_
  refine seq_run0 (stp_eql rfl rfl) ?_
  refine awp_cond _ rfl (fun h3 => ?_) (fun h3 => ?_)
  · replace H := ift h3 H
    refine awp_seq ?_
    refine awp_seq ?_
    refine awp_plain hN rfl ?_
    refine seq_run0 (stp_move (.dat _) rfl) ?_
    refine seq_run0 (stp_leq rfl rfl) ?_
    refine seq_run0 (stp_move (.dat _) rfl) ?_
    refine seq_aT rfl rfl (fun hc => stp_move (.dat _) rfl) ?_
    refine seq_aT rfl rfl (fun hc => stp_lss (cnd (c := (decide (0 ≤ i1))) hc) rfl) ?_
    refine seq_run0 (stp_pick_and rfl (fun hb => (cnd (c := (decide (0 ≤ i1))) hb)) rfl) ?_
    refine awp_cond _ rfl (fun h4 => ?_) (fun h4 => ?_)
    · replace H := ift h4 H
      refine awp_seq ?_
      refine awp_plain hN rfl ?_
      refine seq_run0 (stp_move (.dat _) rfl) ?_
      obtain ⟨r5, h6, H⟩ := bnd H
      refine seq_run0 (stp_call (k_internal_strconv_small i1 r5 h6) ⟨.inl rfl, trivial⟩) ?_
      refine seq_run0 (stp_assign (.dat _) rfl) ?_
      refine awp_ret ?_
      cases H
      exact ⟨trivial, .inl rfl, trivial⟩
    · replace H := iff_ h4 H
      cases H
  · replace H := iff_ h3 H
    refine awp_skip ?_
    refine awp_seq ?_
    refine awp_plain hN rfl ?_
    refine seq_run0 (stp_move (.dat _) rfl) ?_
    refine seq_run0 (stp_conv tyU2 tyU166 rfl) ?_
    refine seq_run0 (stp_move (.dat _) rfl) ?_
    refine seq_run0 (stp_move (.dat _) rfl) ?_
    refine seq_run0 (stp_lss rfl rfl) ?_
    obtain ⟨r7, h8, H⟩ := bnd H
    refine seq_run0 (stp_call (k_internal_strconv_formatBits ([] : (List Int)) (IntKind.wrap .u64 i1) base2 (decide (i1 < 0)) false r7 h8) ⟨.inr ⟨rfl, rfl⟩, .inl rfl, .inl rfl, .inl rfl, .inl rfl, trivial⟩) ?_
    refine seq_run0 (stp_move (.dat _) rfl) ?_
    refine seq_run0 (stp_ext rfl rfl) ?_
    refine seq_run0 (stp_ext rfl rfl) ?_
    refine seq_run0 (stp_assign (.dat _) rfl) ?_
    refine seq_run0 (stp_assign (.dat _) rfl) ?_
    refine awp_seq ?_
    refine awp_plain hN rfl ?_
    refine seq_run0 (stp_move (.dat _) rfl) ?_
    refine seq_run0 (stp_assign (.dat _) rfl) ?_
    refine awp_ret ?_
    cases H
    exact ⟨trivial, .inl rfl, trivial⟩
theorem k_strconv_FormatInt (i1 : Int) (base2 : Int) (r : (Bs)) (H : m_strconv_FormatInt i1 base2 = some r) : Fn Tryz.prog 129 [vint i1, vint base2] (resOf [vstr r]) := by
  refine ⟨by kernel_rfl, pure_of (us := [vstr r]) Tryz.func129 rfl rfl rfl rfl fun X hN => ?_⟩
  unfold m_strconv_FormatInt at H
  refine awp_seq ?_
  refine awp_plain hN rfl ?_
  refine seq_run0 (stp_assign (.dat _) rfl) ?_
  refine awp_seq ?_
  refine awp_plain hN rfl ?_
  refine seq_run0 (stp_move (.dat _) rfl) ?_
  refine seq_run0 (stp_move (.dat _) rfl) ?_
  obtain ⟨r3, h4, H⟩ := bnd H
  refine seq_run0 (stp_call (k_internal_strconv_FormatInt i1 base2 r3 h4) ⟨.inl rfl, .inl rfl, trivial⟩) ?_
  refine seq_run0 (stp_assign (.dat _) rfl) ?_
  refine awp_ret ?_
  cases H
  exact ⟨trivial, .inl rfl, trivial⟩
theorem k_gateref2_ChunksOf (body1 : Bs) (size2 : Int) (r : (Bs)) (H : m_gateref2_ChunksOf body1 size2 = some r) : Fn Tryz.prog 56 [vstr body1, vint size2] (resOf [vstr r]) := by
  refine ⟨by kernel_rfl, pure_of (us := [vstr r]) Tryz.func56 rfl rfl rfl rfl fun X hN => ?_⟩
  unfold m_gateref2_ChunksOf at H
  refine awp_seq ?_
  refine awp_plain hN rfl ?_
  refine seq_run0 (stp_assign (.dat _) rfl) ?_
  refine awp_seq ?_
  refine awp_plain hN rfl ?_
  refine seq_run0 (stp_assign (.dat _) rfl) ?_
  refine awp_joinE (ι := Bs) (fun i => [(5, .dat (vstr i))]) (fun i => []) (fun i => gateref2_ChunksOf_J1 i = some r) (fun i => rfl) ?_ ?_
  · skip
    refine awp_block ?_
    refine awp_iter (fun (s : Bs × Bs) => [(0, .dat (vstr s.1)), (1, .dat (vint size2)), (5, .dat (vstr s.2))]) (fun (s : Bs × Bs) => []) (body1, []) H ⟨rfl, rfl, rfl, trivial⟩ trivial (fun _ => rfl) ?_
    rintro ⟨body3, out4⟩ q5 H hq5
    replace H : gateref2_ChunksOf_L2 size2 body3 out4 = some q5 := H
    unfold gateref2_ChunksOf_L2 at H
    refine awp_seq ?_
    refine awp_seq ?_
    refine awp_plain hN rfl ?_
    refine seq_run0 (stp_move (.dat _) rfl) ?_
    refine seq_run0 (stp_sneq rfl rfl) ?_
    refine awp_cond _ rfl (fun h6 => ?_) (fun h6 => ?_)
    · replace H := ift h6 H
      refine awp_skip ?_
      refine awp_block ?_
      refine awp_seq ?_
      refine awp_plain hN rfl ?_
      refine seq_run0 (stp_move (.dat _) rfl) ?_
      refine seq_run0 (stp_move (.dat _) rfl) ?_
      refine seq_run0 (stp_len_str tyU9 rfl) ?_
      refine seq_run0 (stp_min rfl rfl) ?_
      refine seq_run0 (stp_assign (.dat _) rfl) ?_
      refine awp_seq ?_
      refine awp_draw mixed hN rfl rfl ?_
      refine seq_run0 (stp_move (.dat _) rfl) ?_
      refine seq_run0 (stp_move (.dat _) rfl) ?_
      obtain ⟨r7, h8, H⟩ := bnd H
      refine seq_run0 (stp_call (k_strconv_FormatInt (min size2 (body3.length : Int)) 16 r7 h8) ⟨.inl rfl, .inl rfl, trivial⟩) ?_
      obtain ⟨h9, H⟩ := gif H
      refine seq_run0 (stp_sadd rfl rfl (Nat.le_trans h9 (by decide))) ?_
      refine seq_run0 (stp_move (.dat _) rfl) ?_
      refine seq_run0 (stp_move (.dat _) rfl) ?_
      obtain ⟨l10, h11, H⟩ := bnd H
      refine seq_run0 (t_subS tyU9 rfl rfl rfl h11) ?_
      obtain ⟨h12, H⟩ := gif H
      refine seq_run0 (stp_sadd rfl rfl (Nat.le_trans h12 (by decide))) ?_
      obtain ⟨h13, H⟩ := gif H
      refine seq_run0 (stp_sadd rfl rfl (Nat.le_trans h13 (by decide))) ?_
      obtain ⟨h14, H⟩ := gif H
      refine seq_run0 (stp_sadd rfl rfl (Nat.le_trans h14 (by decide))) ?_
      refine seq_run0 (stp_assign (.dat _) rfl) ?_
      refine ⟨rfl, ?_⟩
      refine awp_plain hN rfl ?_
      refine seq_run0 (stp_move (.dat _) rfl) ?_
      refine seq_run0 (stp_move (.dat _) rfl) ?_
      obtain ⟨l15, h16, H⟩ := bnd H
      refine seq_run0 (t_subS tyU9 rfl rfl rfl h16) ?_
      refine seq_run0 (stp_assign (.dat _) rfl) ?_
      exact ⟨_, backl H, ⟨rfl, rfl, rfl, trivial⟩, trivial⟩
    · replace H := iff_ h6 H
      refine awp_exit ?_
      replace H := outl H hq5
      exact ⟨out4, H, ⟨rfl, trivial⟩, trivial⟩
  · rintro out17 H
    replace H : gateref2_ChunksOf_J1 out17 = some r := H
    unfold gateref2_ChunksOf_J1 at H
    refine awp_seq ?_
    refine awp_plain hN rfl ?_
    refine seq_run0 (stp_move (.dat _) rfl) ?_
    obtain ⟨h18, H⟩ := gif H
    refine seq_run0 (stp_sadd rfl rfl (Nat.le_trans h18 (by decide))) ?_
    obtain ⟨h19, H⟩ := gif H
    refine seq_run0 (stp_sadd rfl rfl (Nat.le_trans h19 (by decide))) ?_
    obtain ⟨h20, H⟩ := gif H
    refine seq_run0 (stp_sadd rfl rfl (Nat.le_trans h20 (by decide))) ?_
    refine seq_run0 (stp_assign (.dat _) rfl) ?_
    refine awp_ret ?_
    cases H
    exact ⟨trivial, .inl rfl, trivial⟩
theorem k_gatemake_Stream_Flip (s1 : S_gatemake_Stream) (n2 : Int) (r : (Bool × S_gatemake_Stream)) (H : m_gatemake_Stream_Flip s1 n2 = some r) : Imp Tryz.prog 22 25 (C_gatemake_Stream s1) [vint n2] (resOf [vbool r.1]) (C_gatemake_Stream r.2) := by
  refine imp_of (us := [vbool r.1]) (cs' := (C_gatemake_Stream r.2)) (by kernel_rfl) Tryz.func22 rfl rfl rfl rfl fun X bl hN => ?_
  unfold m_gatemake_Stream_Flip at H
  refine awp_seq ?_
  refine awp_plain hN rfl ?_
  refine seq_run0 (stp_assign (.dat _) rfl) ?_
  refine awp_seq ?_
  refine awp_plain hN rfl ?_
  refine seq_run0 (stp_move (.ptr _ _) rfl) ?_
  refine seq_run0 (stp_move (.dat _) rfl) ?_
  obtain ⟨r3, h4, H⟩ := bnd H
  refine seq_run2 (stp_imp (k_gatemake_Stream_Next s1 n2 r3 h4) rfl ⟨.inl rfl, trivial⟩ rfl) rfl ?_
  refine seq_run0 (stp_eql rfl rfl) ?_
  refine seq_run0 (stp_assign (.dat _) rfl) ?_
  refine awp_ret ?_
  cases H
  exact ⟨trivial, ⟨.inl rfl, trivial⟩, rfl⟩
theorem k_gatemake_Stream_Changed (s1 : S_gatemake_Stream) (t2 : Bs) (v3 : Bs) (r : (Bs × S_gatemake_Stream)) (H : m_gatemake_Stream_Changed s1 t2 v3 = some r) : Imp Tryz.prog 81 25 (C_gatemake_Stream s1) [vstr t2, vstr v3] (resOf [vstr r.1]) (C_gatemake_Stream r.2) := by
  refine imp_of (us := [vstr r.1]) (cs' := (C_gatemake_Stream r.2)) (by kernel_rfl) Tryz.func81 rfl rfl rfl rfl fun X bl hN => ?_
  unfold m_gatemake_Stream_Changed at H
  refine awp_seq ?_
  refine awp_plain hN rfl ?_
  refine seq_run0 (stp_assign (.dat _) rfl) ?_
  refine awp_seq ?_
  refine awp_seq ?_
  refine awp_plain hN rfl ?_
  refine seq_run0 (stp_move (.dat _) rfl) ?_
  refine seq_run0 (stp_seql rfl rfl) ?_
  refine seq_run0 (stp_move (.dat _) rfl) ?_
  refine seq_aF rfl rfl (fun hc => stp_move (.dat _) rfl) ?_
  refine seq_aF rfl rfl (fun hc => stp_seql (cnd (c := (!(decide (t2 = [])))) hc) rfl) ?_
  refine seq_run0 (stp_pick_or rfl rfl (fun hb => (cnd (c := (!(decide (t2 = [])))) (notI hb)))) ?_
  refine awp_cond _ rfl (fun h4 => ?_) (fun h4 => ?_)
  · replace H := ift h4 H
    refine awp_seq ?_
    refine awp_plain hN rfl ?_
    refine seq_run0 (stp_move (.dat _) rfl) ?_
    refine seq_run0 (stp_assign (.dat _) rfl) ?_
    refine awp_ret ?_
    cases H
    exact ⟨trivial, ⟨.inl rfl, trivial⟩, rfl⟩
  · replace H := iff_ h4 H
    refine awp_skip ?_
    refine awp_seq ?_
    refine awp_plain hN rfl ?_
    refine seq_run0 (stp_move (.ptr _ _) rfl) ?_
    refine seq_run0 (stp_move (.dat _) rfl) ?_
    refine seq_run0 (stp_len_str tyU9 rfl) ?_
    obtain ⟨r5, h6, H⟩ := bnd H
    refine seq_run2 (stp_imp (k_gatemake_Stream_Next s1 (t2.length : Int) r5 h6) rfl ⟨.inl rfl, trivial⟩ rfl) rfl ?_
    refine seq_run0 (stp_assign (.dat _) rfl) ?_
    refine awp_seq ?_
    refine awp_plain hN rfl ?_
    refine seq_run0 (stp_move (.dat _) rfl) ?_
    refine seq_run0 (stp_move (.ptr _ _) rfl) ?_
    refine seq_run0 (stp_move (.dat _) rfl) ?_
    refine seq_run0 (stp_len_str tyU9 rfl) ?_
    obtain ⟨r7, h8, H⟩ := bnd H
    refine seq_run2 (stp_imp (k_gatemake_Stream_Next r5.2 (v3.length : Int) r7 h8) rfl ⟨.inl rfl, trivial⟩ rfl) rfl ?_
    obtain ⟨x9, h10, H⟩ := bnd H
    refine seq_run0 (t_byteI tyU9 rfl rfl h10) ?_
    refine seq_run0 (stp_assign (.dat _) rfl) ?_
    refine awp_seq ?_
    refine awp_seq ?_
    refine awp_plain hN rfl ?_
    refine seq_run0 (stp_move (.ptr _ _) rfl) ?_
    obtain ⟨r11, h12, H⟩ := bnd H
    refine seq_run2 (stp_imp (k_gatemake_Stream_Next r7.2 3 r11 h12) rfl ⟨.inl rfl, trivial⟩ rfl) rfl ?_
    refine awp_block ?_
    refine awp_seq ?_
    refine awp_plain hN rfl ?_
    refine seq_run0 (stp_eql rfl rfl) ?_
    refine seq_run0 (stp_assign (.dat _) rfl) ?_
    refine awp_cond _ rfl (fun h13 => ?_) (fun h13 => ?_)
    · replace H := ift h13 H
      refine awp_seq ?_
      refine awp_draw mixed hN rfl rfl ?_
      refine seq_run0 (stp_move (.dat _) rfl) ?_
      refine seq_run0 (stp_move (.dat _) rfl) ?_
      obtain ⟨l14, h15, H⟩ := bnd H
      refine seq_run0 (t_subS tyU9 rfl rfl rfl h15) ?_
      refine seq_run0 (stp_move (.dat _) rfl) ?_
      refine seq_run0 (stp_conv tyU5 tyU21 rfl) ?_
      refine seq_run0 (stp_convR tyU21 rfl tyU9 rfl) ?_
      obtain ⟨h16, H⟩ := gif H
      refine seq_run0 (stp_sadd rfl rfl (Nat.le_trans h16 (by decide))) ?_
      refine seq_run0 (stp_move (.dat _) rfl) ?_
      refine seq_run0 (stp_move (.dat _) rfl) ?_
      refine seq_run0 (stp_wrap _ rfl rfl (.inl ⟨rfl, rfl⟩)) ?_
      obtain ⟨l17, h18, H⟩ := bnd H
      refine seq_run0 (t_subS tyU9 rfl rfl rfl h18) ?_
      obtain ⟨h19, H⟩ := gif H
      refine seq_run0 (stp_sadd rfl rfl (Nat.le_trans h19 (by decide))) ?_
      refine seq_run0 (stp_assign (.dat _) rfl) ?_
      refine ⟨rfl, ?_⟩
      refine awp_ret ?_
      cases H
      exact ⟨trivial, ⟨.inl rfl, trivial⟩, rfl⟩
    · replace H := iff_ h13 H
      refine awp_seq ?_
      refine awp_plain hN rfl ?_
      refine seq_run0 (stp_eql rfl rfl) ?_
      refine seq_run0 (stp_assign (.dat _) rfl) ?_
      refine awp_cond _ rfl (fun h20 => ?_) (fun h20 => ?_)
      · replace H := ift h20 H
        refine awp_seq ?_
        refine awp_draw mixed hN rfl rfl ?_
        refine seq_run0 (stp_move (.dat _) rfl) ?_
        refine seq_run0 (stp_move (.dat _) rfl) ?_
        obtain ⟨l21, h22, H⟩ := bnd H
        refine seq_run0 (t_subS tyU9 rfl rfl rfl h22) ?_
        refine seq_run0 (stp_move (.dat _) rfl) ?_
        refine seq_run0 (stp_conv tyU5 tyU21 rfl) ?_
        refine seq_run0 (stp_convR tyU21 rfl tyU9 rfl) ?_
        obtain ⟨h23, H⟩ := gif H
        refine seq_run0 (stp_sadd rfl rfl (Nat.le_trans h23 (by decide))) ?_
        refine seq_run0 (stp_move (.dat _) rfl) ?_
        refine seq_run0 (stp_move (.dat _) rfl) ?_
        obtain ⟨l24, h25, H⟩ := bnd H
        refine seq_run0 (t_subS tyU9 rfl rfl rfl h25) ?_
        obtain ⟨h26, H⟩ := gif H
        refine seq_run0 (stp_sadd rfl rfl (Nat.le_trans h26 (by decide))) ?_
        refine seq_run0 (stp_assign (.dat _) rfl) ?_
        refine ⟨rfl, ?_⟩
        refine awp_ret ?_
        cases H
        exact ⟨trivial, ⟨.inl rfl, trivial⟩, rfl⟩
      · replace H := iff_ h20 H
        refine awp_skip ?_
        refine awp_seq ?_
        refine awp_draw mixed hN rfl rfl ?_
        refine seq_run0 (stp_move (.dat _) rfl) ?_
        refine seq_run0 (stp_move (.dat _) rfl) ?_
        obtain ⟨l27, h28, H⟩ := bnd H
        refine seq_run0 (t_subS tyU9 rfl rfl rfl h28) ?_
        refine seq_run0 (stp_move (.dat _) rfl) ?_
        refine seq_run0 (stp_move (.dat _) rfl) ?_
        refine seq_run0 (stp_wrap _ rfl rfl (.inl ⟨rfl, rfl⟩)) ?_
        obtain ⟨l29, h30, H⟩ := bnd H
        refine seq_run0 (t_subS tyU9 rfl rfl rfl h30) ?_
        obtain ⟨h31, H⟩ := gif H
        refine seq_run0 (stp_sadd rfl rfl (Nat.le_trans h31 (by decide))) ?_
        refine seq_run0 (stp_assign (.dat _) rfl) ?_
        refine ⟨rfl, ?_⟩
        refine awp_ret ?_
        cases H
        exact ⟨trivial, ⟨.inl rfl, trivial⟩, rfl⟩
theorem k_gatemake_Stream_ChunkText (s1 : S_gatemake_Stream) (r : (Bs × S_gatemake_Stream)) (H : m_gatemake_Stream_ChunkText s1 = some r) : Imp Tryz.prog 51 25 (C_gatemake_Stream s1) [] (resOf [vstr r.1]) (C_gatemake_Stream r.2) := by
  refine imp_of (us := [vstr r.1]) (cs' := (C_gatemake_Stream r.2)) (by kernel_rfl) Tryz.func51 rfl rfl rfl rfl fun X bl hN => ?_
  unfold m_gatemake_Stream_ChunkText at H
  refine awp_seq ?_
  refine awp_plain hN rfl ?_
  refine seq_run0 (stp_assign (.dat _) rfl) ?_
  refine awp_seq ?_
  refine awp_plain hN rfl ?_
  refine seq_run0 (stp_move (.ptr _ _) rfl) ?_
  obtain ⟨r2, h3, H⟩ := bnd H
  refine seq_run0 (stp_call (k_strings_Repeat [97, 98] 20 r2 h3) ⟨.inl rfl, .inl rfl, trivial⟩) ?_
  refine seq_run0 (stp_dat (u' := vlst (List.map C_string [[], [104, 101, 108, 108, 111], r2])) (stp_lit [[_], [_], [_]] tyL41 ⟨rfl, .inl ⟨_, rfl, rfl, rfl⟩, rfl, rfl, .inl ⟨_, rfl, rfl, rfl⟩, rfl, rfl, .inl ⟨_, rfl, rfl, rfl⟩, rfl, trivial⟩ rfl rfl) rfl) ?_
  obtain ⟨r4, h5, H⟩ := bnd H
  refine seq_run2 (stp_imp (k_gatemake_Stream_Some s1 ([[], [104, 101, 108, 108, 111], r2]) r4 h5) rfl ⟨.inl rfl, trivial⟩ rfl) rfl ?_
  refine seq_run0 (stp_move (.ptr _ _) rfl) ?_
  refine seq_run0 (stp_dat (u' := vlst (List.map C_int [1, 2, 3, 16, 100])) (stp_lit [[_], [_], [_], [_], [_]] tyL22 ⟨rfl, .inl ⟨_, rfl, rfl, rfl⟩, rfl, rfl, .inl ⟨_, rfl, rfl, rfl⟩, rfl, rfl, .inl ⟨_, rfl, rfl, rfl⟩, rfl, rfl, .inl ⟨_, rfl, rfl, rfl⟩, rfl, rfl, .inl ⟨_, rfl, rfl, rfl⟩, rfl, trivial⟩ rfl rfl) rfl) ?_
  obtain ⟨r6, h7, H⟩ := bnd H
  refine seq_run2 (stp_imp (k_gatemake_Stream_Pick r4.2 [1, 2, 3, 16, 100] r6 h7) rfl ⟨.inl rfl, trivial⟩ rfl) rfl ?_
  obtain ⟨r8, h9, H⟩ := bnd H
  refine seq_run0 (stp_call (k_gateref2_ChunksOf r4.1 r6.1 r8 h9) ⟨.inl rfl, .inl rfl, trivial⟩) ?_
  refine seq_run0 (stp_assign (.dat _) rfl) ?_
  refine awp_joinE (ι := Bs × (List Int) × Int) (fun i => [(0, .ptr 0 0), (3, .dat (vstr i.1))]) (fun i => [(0, .box (some bl) 25 [.dat (vlst (List.map C_int i.2.1)), .dat (vint i.2.2)])]) (fun i => gatemake_Stream_ChunkText_J1 i.1 i.2.1 i.2.2 = some r) (fun i => rfl) ?_ ?_
  · skip
    refine awp_seq ?_
    refine awp_plain hN rfl ?_
    refine seq_run0 (stp_move (.ptr _ _) rfl) ?_
    obtain ⟨r10, h11, H⟩ := bnd H
    refine seq_run2 (stp_imp (k_gatemake_Stream_Flip r6.2 6 r10 h11) rfl ⟨.inl rfl, trivial⟩ rfl) rfl ?_
    refine awp_cond _ rfl (fun h12 => ?_) (fun h12 => ?_)
    · replace H := ift h12 H
      refine awp_plain hN rfl ?_
      refine seq_run0 (stp_move (.ptr _ _) rfl) ?_
      refine seq_run0 (stp_dat (u' := vlst (List.map C_string [[65, 13, 10, 48, 49, 50, 51, 52, 53, 54, 55, 56, 57, 13, 10, 48, 13, 10, 13, 10], [48, 49, 13, 10, 120, 13, 10, 48, 13, 10, 13, 10], [52, 101, 50, 49, 13, 10], [49, 50, 51, 52, 53, 54, 55, 56, 57, 13, 10], [13, 10], [48, 13, 10], [45, 49, 13, 10], [50, 13, 10, 97, 98, 99, 13, 10, 48, 13, 10, 13, 10], []])) (stp_lit [[_], [_], [_], [_], [_], [_], [_], [_], [_]] tyL41 ⟨rfl, .inl ⟨_, rfl, rfl, rfl⟩, rfl, rfl, .inl ⟨_, rfl, rfl, rfl⟩, rfl, rfl, .inl ⟨_, rfl, rfl, rfl⟩, rfl, rfl, .inl ⟨_, rfl, rfl, rfl⟩, rfl, rfl, .inl ⟨_, rfl, rfl, rfl⟩, rfl, rfl, .inl ⟨_, rfl, rfl, rfl⟩, rfl, rfl, .inl ⟨_, rfl, rfl, rfl⟩, rfl, rfl, .inl ⟨_, rfl, rfl, rfl⟩, rfl, rfl, .inl ⟨_, rfl, rfl, rfl⟩, rfl, trivial⟩ rfl rfl) rfl) ?_
      obtain ⟨r13, h14, H⟩ := bnd H
      refine seq_run2 (stp_imp (k_gatemake_Stream_Some r10.2 ([[65, 13, 10, 48, 49, 50, 51, 52, 53, 54, 55, 56, 57, 13, 10, 48, 13, 10, 13, 10], [48, 49, 13, 10, 120, 13, 10, 48, 13, 10, 13, 10], [52, 101, 50, 49, 13, 10], [49, 50, 51, 52, 53, 54, 55, 56, 57, 13, 10], [13, 10], [48, 13, 10], [45, 49, 13, 10], [50, 13, 10, 97, 98, 99, 13, 10, 48, 13, 10, 13, 10], []]) r13 h14) rfl ⟨.inl rfl, trivial⟩ rfl) rfl ?_
      refine seq_run0 (stp_assign (.dat _) rfl) ?_
      exact ⟨(r13.1, r13.2.L, r13.2.at_), H, ⟨rfl, rfl, trivial⟩, ⟨rfl, trivial⟩⟩
    · replace H := iff_ h12 H
      refine awp_skip ?_
      exact ⟨(r8, r10.2.L, r10.2.at_), H, ⟨rfl, rfl, trivial⟩, ⟨rfl, trivial⟩⟩
  · rintro ⟨t15, c16, c17⟩ H
    replace H : gatemake_Stream_ChunkText_J1 t15 c16 c17 = some r := H
    unfold gatemake_Stream_ChunkText_J1 at H
    refine awp_seq ?_
    refine awp_seq ?_
    refine awp_plain hN rfl ?_
    refine seq_run0 (stp_move (.ptr _ _) rfl) ?_
    refine seq_run0 (stp_dat (u' := vlst (List.map C_int [0, 0, 1])) (stp_lit [[_], [_], [_]] tyL22 ⟨rfl, .inl ⟨_, rfl, rfl, rfl⟩, rfl, rfl, .inl ⟨_, rfl, rfl, rfl⟩, rfl, rfl, .inl ⟨_, rfl, rfl, rfl⟩, rfl, trivial⟩ rfl rfl) rfl) ?_
    obtain ⟨r18, h19, H⟩ := bnd H
    refine seq_run2 (stp_imp (k_gatemake_Stream_Pick (S_gatemake_Stream.mk c16 c17) [0, 0, 1] r18 h19) rfl ⟨.inl rfl, trivial⟩ rfl) rfl ?_
    refine seq_run0 (stp_move (.dat _) rfl) ?_
    refine awp_block ?_
    obtain ⟨h25, H⟩ := gif H
    refine awp_rng (fun (k23 : Nat) (s : Bs × (List Int) × Int) => [(0, .ptr 0 0), (3, .dat (vstr s.1)), (19, .dat (vint r18.1)), (20, .dat (vint (k23 : Int)))]) (fun (k23 : Nat) (s : Bs × (List Int) × Int) => [(0, .box (some bl) 25 [.dat (vlst (List.map C_int s.2.1)), .dat (vint s.2.2)])]) (t15, r18.2.L, r18.2.at_) H ⟨rfl, rfl, rfl, rfl, trivial⟩ ⟨rfl, trivial⟩ (fun _ _ => rfl) ?_ ?_
    · rintro ⟨t20, c21, c22⟩ H
      replace H : gatemake_Stream_ChunkText_E2 t20 c21 c22 = some r := H
      unfold gatemake_Stream_ChunkText_E2 at H
      refine awp_seq ?_
      refine awp_plain hN rfl ?_
      refine seq_run0 (stp_lss rfl rfl) ?_
      refine awp_seq ?_
      refine awp_cond _ rfl (fun h => (lt_tI h).elim) (fun h => ?_)
      refine awp_exit ?_
      refine awp_seq ?_
      refine awp_plain hN rfl ?_
      refine seq_run0 (stp_move (.dat _) rfl) ?_
      refine seq_run0 (stp_move (.ptr _ _) rfl) ?_
      refine seq_run0 (stp_dat (u' := vlst (List.map C_string [[], [120]])) (stp_lit [[_], [_]] tyL41 ⟨rfl, .inl ⟨_, rfl, rfl, rfl⟩, rfl, rfl, .inl ⟨_, rfl, rfl, rfl⟩, rfl, trivial⟩ rfl rfl) rfl) ?_
      obtain ⟨r26, h27, H⟩ := bnd H
      refine seq_run2 (stp_imp (k_gatemake_Stream_Some (S_gatemake_Stream.mk c21 c22) ([[], [120]]) r26 h27) rfl ⟨.inl rfl, trivial⟩ rfl) rfl ?_
      obtain ⟨h28, H⟩ := gif H
      refine seq_run0 (stp_sadd rfl rfl (Nat.le_trans h28 (by decide))) ?_
      refine seq_run0 (stp_assign (.dat _) rfl) ?_
      refine awp_ret ?_
      cases H
      exact ⟨trivial, ⟨.inl rfl, trivial⟩, rfl⟩
    · rintro k23 ⟨t20, c21, c22⟩ q24 h29 H hq24
      replace H : gatemake_Stream_ChunkText_L2 k23 t20 c21 c22 = some q24 := H
      unfold gatemake_Stream_ChunkText_L2 at H
      refine awp_seq ?_
      refine awp_plain hN rfl ?_
      refine seq_run0 (stp_lss rfl rfl) ?_
      refine awp_seq ?_
      refine awp_cond _ rfl (fun h => ?_) (fun h => (lt_fI h29 h).elim)
      refine awp_skip ?_
      refine awp_seq ?_
      refine awp_block ?_
      refine awp_plain hN rfl ?_
      refine seq_run0 (stp_move (.ptr _ _) rfl) ?_
      refine seq_run0 (stp_move (.dat _) rfl) ?_
      obtain ⟨r30, h31, H⟩ := bnd H
      refine seq_run2 (stp_imp (k_gatemake_Stream_Changed (S_gatemake_Stream.mk c21 c22) t20 [13, 10, 48, 49, 50, 97] r30 h31) rfl ⟨.inl rfl, .inl rfl, trivial⟩ rfl) rfl ?_
      refine seq_run0 (stp_assign (.dat _) rfl) ?_
      refine awp_plain hN rfl ?_
      refine seq_run0 (stp_add rfl rfl (by omega)) ?_
      refine seq_run0 (stp_move (.dat _) rfl) ?_
      exact ⟨_, backl H, ⟨rfl, rfl, rfl, rfl, trivial⟩, ⟨rfl, trivial⟩⟩
theorem k_kit_Outside (n1 : Int) (low2 : Int) (high3 : Int) (r : (Bool)) (H : m_kit_Outside n1 low2 high3 = some r) : Fn Tryz.prog 78 [vint n1, vint low2, vint high3] (resOf [vbool r]) := by
  refine ⟨by kernel_rfl, pure_of (us := [vbool r]) Tryz.func78 rfl rfl rfl rfl fun X hN => ?_⟩
  unfold m_kit_Outside at H
  refine awp_seq ?_
  refine awp_plain hN rfl ?_
  refine seq_run0 (stp_assign (.dat _) rfl) ?_
  refine awp_seq ?_
  refine awp_plain hN rfl ?_
  refine seq_run0 (stp_move (.dat _) rfl) ?_
  refine seq_run0 (stp_move (.dat _) rfl) ?_
  refine seq_run0 (stp_lss rfl rfl) ?_
  refine seq_run0 (stp_move (.dat _) rfl) ?_
  refine seq_aF rfl rfl (fun hc => stp_move (.dat _) rfl) ?_
  refine seq_aF rfl rfl (fun hc => stp_move (.dat _) rfl) ?_
  refine seq_aF rfl rfl (fun hc => stp_gtr (cnd (c := (!(decide (n1 < low2)))) hc) (cnd (c := (!(decide (n1 < low2)))) hc)) ?_
  refine seq_run0 (stp_pick_or rfl rfl (fun hb => (cnd (c := (!(decide (n1 < low2)))) (notI hb)))) ?_
  refine seq_run0 (stp_assign (.dat _) rfl) ?_
  refine awp_ret ?_
  cases H
  exact ⟨trivial, .inl rfl, trivial⟩
theorem kb_strings_Builder_WriteString (l1 : (List Int)) (s2 : Bs) (r : (Int × Int × (List Int))) (H : m_strings_Builder_WriteString l1 s2 = some r) : FnG Tryz.prog 96 [.ptr 0 0, .dat (vstr s2)] [(0, .box (some 0) 110 [.nptr 0, .row 1 l1.length]), (1, .row 5 1 (List.map C_uint8 l1))] (.dat (resOf [vint r.1, verr r.2.1])) [(0, .box (some 0) 110 [.nptr 0, .row 900 r.2.2.length]), (900, .row 5 1 (List.map C_uint8 r.2.2))] := by
  refine fnG_of (by kernel_rfl) Tryz.func96 rfl rfl rfl rfl fun X A hN => ?_
  refine awp_cv ?_
  unfold m_strings_Builder_WriteString at H
  refine awp_seq ?_
  refine awp_plain hN rfl ?_
  refine seq_run0 (stp_assign (.dat _) rfl) ?_
  refine seq_run0 (stp_assign (.dat _) rfl) ?_
  refine awp_seq ?_
  refine awp_plain hN rfl ?_
  refine seq_run0 (stp_move (.ptr _ _) rfl) ?_
  refine seq_run2 (stp_cc cc_prog rfl) rfl ?_
  refine awp_seq ?_
  refine awp_plain hN rfl ?_
  refine seq_run0 (stp_move (.ptr _ _) rfl) ?_
  refine seq_run0 (stp_move (.ptr _ _) rfl) ?_
  refine seq_run0 (stp_nilP rfl) ?_
  refine seq_run0 (stp_fldP tyF110_1 rfl) ?_
  refine seq_run1 (stp_load1 tyS46 rfl rfl) rfl ?_
  refine seq_run0 (stp_move (.dat _) rfl) ?_
  obtain ⟨h3, H⟩ := gif H
  refine seq_run2 (t_appS (C := C_uint8) (fun _ => rfl) (show tyB8 Tryz.prog 46 9 5 from ⟨by kernel_rfl, by kernel_rfl, by kernel_rfl⟩) rfl rfl rfl h3) rfl ?_
  refine seq_run0 (stp_nilP rfl) ?_
  refine seq_run0 (stp_fldP tyF110_1 rfl) ?_
  refine seq_run4 (stp_storeS tyS46 rfl rfl (by rw [List.length_map]) rfl) rfl rfl ?_
  refine awp_seq ?_
  refine awp_plain hN rfl ?_
  refine seq_run0 (stp_move (.dat _) rfl) ?_
  refine seq_run0 (stp_len_str tyU9 rfl) ?_
  refine seq_run0 (stp_assign (.dat _) rfl) ?_
  refine seq_run0 (stp_assign (.dat _) rfl) ?_
  refine awp_ret ?_
  cases H
  show Cv _ _ _ _
  refine cv_ren (rn [(1, 900)]) [(4, .dat (vint (s2.length : Int))), (5, .dat (verr 0))] [(0, .box (some (A.bl 0)) 110 [.nptr 0, .row 1 ((l1 ++ numsB s2).length)]), (1, .row 5 1 (List.map C_uint8 (l1 ++ numsB s2)))] ⟨rfl, rfl, trivial⟩ ⟨rfl, rfl, trivial⟩ rfl rfl ?_
  exact ⟨trivial, [(4, .dat (vint (s2.length : Int))), (5, .dat (verr 0))], ⟨rfl, rfl, trivial⟩, ⟨rfl, rfl, trivial⟩, rfl, .inl ⟨[vint (s2.length : Int), verr 0], ⟨rfl, rfl, trivial⟩, rfl⟩⟩
theorem k_message_Chunk (body1 : Bs) (size2 : Int) (r : (Bs × Int)) (H : m_message_Chunk body1 size2 = some r) : Fn Tryz.prog 52 [vstr body1, vint size2] (resOf [vstr r.1, vint r.2]) := by
  refine ⟨by kernel_rfl, pure_of (us := [vstr r.1, vint r.2]) Tryz.func52 rfl rfl rfl rfl fun X hN => ?_⟩
  unfold m_message_Chunk at H
  refine awp_seq ?_
  refine awp_plain hN rfl ?_
  refine seq_run0 (stp_assign (.dat _) rfl) ?_
  refine seq_run0 (stp_assign (.dat _) rfl) ?_
  refine awp_seq ?_
  refine awp_seq ?_
  refine awp_plain hN rfl ?_
  refine seq_run0 (stp_move (.dat _) rfl) ?_
  obtain ⟨r3, h4, H⟩ := bnd H
  refine seq_run0 (stp_call (k_kit_Outside size2 1 20000 r3 h4) ⟨.inl rfl, .inl rfl, .inl rfl, trivial⟩) ?_
  refine awp_cond _ rfl (fun h5 => ?_) (fun h5 => ?_)
  · replace H := ift h5 H
    refine awp_seq ?_
    refine awp_plain hN rfl ?_
    refine seq_run0 (stp_assign (.dat _) rfl) ?_
    refine seq_run0 (stp_assign (.dat _) rfl) ?_
    refine awp_ret ?_
    cases H
    exact ⟨trivial, .inl rfl, .inl rfl, trivial⟩
  · replace H := iff_ h5 H
    refine awp_skip ?_
    refine awp_seq ?_
    refine awp_seq ?_
    refine awp_plain hN rfl ?_
    refine seq_run0 (stp_move (.dat _) rfl) ?_
    refine seq_run0 (stp_len_str tyU9 rfl) ?_
    refine seq_run0 (stp_gtr rfl rfl) ?_
    refine awp_cond _ rfl (fun h6 => ?_) (fun h6 => ?_)
    · replace H := ift h6 H
      refine awp_seq ?_
      refine awp_plain hN rfl ?_
      refine seq_run0 (stp_assign (.dat _) rfl) ?_
      refine seq_run0 (stp_assign (.dat _) rfl) ?_
      refine awp_ret ?_
      cases H
      exact ⟨trivial, .inl rfl, .inl rfl, trivial⟩
    · replace H := iff_ h6 H
      refine awp_skip ?_
      refine awp_seq ?_
      refine awp_plain hN rfl ?_
      refine seq_run2 (stp_alloc 1 tyZ110 rfl) rfl ?_
      refine awp_wkB 1 0 (.nptr 1) rfl rfl nptr_nil ?_
      refine awp_nilrowB 1 1 2 5 1 rfl rfl rfl rfl ?_
      refine awp_joinE (ι := (List Int)) (fun i => [(6, .ptr 1 0)]) (fun i => [(1, .box none 110 [.nptr 1, .row 2 i.length]), (2, .row 5 1 (List.map C_uint8 i))]) (fun i => message_Chunk_J1 i = some r) (fun i => rfl) ?_ ?_
      · refine awp_cv ?_
        refine awp_block ?_
        refine awp_iter (fun (s : Bs × (List Int)) => [(0, .dat (vstr s.1)), (1, .dat (vint size2)), (6, .ptr 1 0)]) (fun (s : Bs × (List Int)) => [(1, .box none 110 [.nptr 1, .row 2 s.2.length]), (2, .row 5 1 (List.map C_uint8 s.2))]) (body1, ([] : List Int)) H ⟨rfl, rfl, rfl, trivial⟩ ⟨rfl, rfl, trivial⟩ (fun _ => rfl) ?_
        rintro ⟨body7, l8⟩ q9 H hq9
        replace H : message_Chunk_L2 size2 body7 l8 = some q9 := H
        unfold message_Chunk_L2 at H
        refine awp_cv ?_
        refine awp_seq ?_
        refine awp_seq ?_
        refine awp_plain hN rfl ?_
        refine seq_run0 (stp_move (.dat _) rfl) ?_
        refine seq_run0 (stp_len_str tyU9 rfl) ?_
        refine seq_run0 (stp_gtr rfl rfl) ?_
        refine awp_cond _ rfl (fun h10 => ?_) (fun h10 => ?_)
        · replace H := ift h10 H
          refine awp_skip ?_
          refine awp_block ?_
          refine awp_seq ?_
          refine awp_plain hN rfl ?_
          refine seq_run0 (stp_move (.dat _) rfl) ?_
          refine seq_run0 (stp_move (.dat _) rfl) ?_
          refine seq_run0 (stp_len_str tyU9 rfl) ?_
          refine seq_run0 (stp_min rfl rfl) ?_
          refine seq_run0 (stp_assign (.dat _) rfl) ?_
          refine awp_seq ?_
          refine awp_draw mixed hN rfl rfl ?_
          refine seq_run0 (stp_move (.dat _) rfl) ?_
          obtain ⟨r11, h12, H⟩ := bnd H
          refine seq_run0 (stp_call (k_strconv_FormatInt (min size2 (body7.length : Int)) 16 r11 h12) ⟨.inl rfl, .inl rfl, trivial⟩) ?_
          obtain ⟨h13, H⟩ := gif H
          refine seq_run0 (stp_sadd rfl rfl (Nat.le_trans h13 (by decide))) ?_
          refine seq_run0 (stp_move (.dat _) rfl) ?_
          refine seq_run0 (stp_move (.dat _) rfl) ?_
          obtain ⟨l14, h15, H⟩ := bnd H
          refine seq_run0 (t_subS tyU9 rfl rfl rfl h15) ?_
          obtain ⟨h16, H⟩ := gif H
          refine seq_run0 (stp_sadd rfl rfl (Nat.le_trans h16 (by decide))) ?_
          obtain ⟨h17, H⟩ := gif H
          refine seq_run0 (stp_sadd rfl rfl (Nat.le_trans h17 (by decide))) ?_
          obtain ⟨r18, h19, H⟩ := bnd H
          refine seq_callG (rn [(0, 1), (1, 2), (900, 3)]) [(0, _, _, some _), (1, _, _, none)] [(900, _)] (kb_strings_Builder_WriteString l8 (((r11 ++ [13, 10]) ++ l14) ++ [13, 10]) r18 h19) ⟨rfl, rfl, rfl, trivial⟩ ⟨.inl (.inl rfl), .inl (.inl rfl), trivial⟩ ⟨⟨⟨rfl, rfl⟩, trivial⟩, ⟨⟨rfl, rfl, rfl⟩, trivial⟩, trivial⟩ rfl ?_
          refine ⟨rfl, ?_⟩
          refine awp_plain hN rfl ?_
          refine seq_run0 (stp_move (.dat _) rfl) ?_
          refine seq_run0 (stp_move (.dat _) rfl) ?_
          obtain ⟨l20, h21, H⟩ := bnd H
          refine seq_run0 (t_subS tyU9 rfl rfl rfl h21) ?_
          refine seq_run0 (stp_assign (.dat _) rfl) ?_
          refine seq_end ?_
          show Cv _ _ _ _
          refine cv_ren (rn [(3, 2)]) [(0, .dat (vstr l20)), (1, .dat (vint size2)), (6, .ptr 1 0)] [(1, .box none 110 [.nptr 1, .row 3 r18.2.2.length]), (3, .row 5 1 (List.map C_uint8 r18.2.2))] ⟨rfl, rfl, rfl, trivial⟩ ⟨rfl, rfl, trivial⟩ rfl rfl ?_
          exact ⟨_, backl H, ⟨rfl, rfl, rfl, trivial⟩, ⟨rfl, rfl, trivial⟩⟩
        · replace H := iff_ h10 H
          refine awp_exit ?_
          replace H := outl H hq9
          show Cv _ _ _ _
          refine cv_in ?_
          show Cv _ _ _ _
          refine cv_in ?_
          exact ⟨l8, H, ⟨rfl, trivial⟩, ⟨rfl, rfl, trivial⟩⟩
      · rintro l22 H
        replace H : message_Chunk_J1 l22 = some r := H
        unfold message_Chunk_J1 at H
        refine awp_seq ?_
        refine awp_plain hN rfl ?_
        obtain ⟨r23, h24, H⟩ := bnd H
        refine seq_callG (rn [(0, 1), (1, 2), (900, 4)]) [(0, _, _, some _), (1, _, _, none)] [(900, _)] (kb_strings_Builder_WriteString l22 [48, 13, 10, 13, 10] r23 h24) ⟨rfl, rfl, rfl, trivial⟩ ⟨.inl (.inl rfl), .inl (.inl rfl), trivial⟩ ⟨⟨⟨rfl, rfl⟩, trivial⟩, ⟨⟨rfl, rfl, rfl⟩, trivial⟩, trivial⟩ rfl ?_
        refine awp_seq ?_
        refine awp_plain hN rfl ?_
        obtain ⟨h25, H⟩ := gif H
        refine seq_callG (rn [(0, 1), (1, 4)]) [(0, _, _, none), (1, _, _, none)] [] (kbs_String h25 (C := C_uint8) (fun _ => rfl)) ⟨rfl, rfl, trivial⟩ ⟨.inl (.inl rfl), trivial⟩ ⟨⟨⟨rfl, rfl⟩, trivial⟩, ⟨⟨rfl, rfl, rfl⟩, trivial⟩, trivial⟩ rfl ?_
        refine seq_run0 (stp_assign (.dat _) rfl) ?_
        refine seq_run0 (stp_assign (.dat _) rfl) ?_
        refine awp_ret ?_
        cases H
        exact ⟨trivial, .inl rfl, .inl rfl, trivial⟩
theorem k_strings_Cut (s p : Bs) (r : Bs × Bs × Bool) (H : m_strings_Cut s p = some r) : Fn Tryz.prog 82 [vstr s, vstr p] (resOf [vstr r.1, vstr r.2.1, vbool r.2.2]) := by
  unfold m_strings_Cut at H
  obtain ⟨h1, h2⟩ := gif H
  cases h2
  refine fn_of_callsG (by kernel_rfl) fun M w vs hM h => ?_
  have hv := Ts_vals (us := [.string ⟨s.toArray⟩, .string ⟨p.toArray⟩]) h
  subst hv
  obtain ⟨m, hm⟩ := maxLen_cell hM
  refine (Tryz.strings_Cut ⟨s.toArray⟩ ⟨p.toArray⟩ m w (by simp [ByteArray.size]; omega) hm).mono ?_
  rintro e w' ⟨rfl, n, rfl⟩
  refine ⟨_, rfl, ⟨[_, _, _], rfl, rfl, fun j u hj => ?_⟩, ⟨rfl, rfl, rfl, Nat.le_refl _, fun _ _ _ => rfl⟩⟩
  rcases j with _ | _ | _ | j
  · cases hj; exact ⟨_, rfl, rfl⟩
  · cases hj; exact ⟨_, rfl, rfl⟩
  · cases hj; exact ⟨_, rfl, rfl⟩
  · simp at hj

theorem k_strings_TrimSet (s p : Bs) (r : Bs) (H : m_strings_TrimSet s p = some r) : Fn Tryz.prog 87 [vstr s, vstr p] (resOf [vstr r]) := by
  unfold m_strings_TrimSet at H
  obtain ⟨⟨⟨h1, h2⟩, h3⟩, h4⟩ := gif H
  cases h4
  refine fn_of_callsG (by kernel_rfl) fun M w vs hM h => ?_
  have hv := Ts_vals (us := [.string ⟨s.toArray⟩, .string ⟨p.toArray⟩]) h
  subst hv
  refine (Any.strings_Trim_laid Tryz.lays160 (by kernel_rfl) ⟨s.toArray⟩ ⟨p.toArray⟩ w (by simp [ByteArray.size]; omega) (by simp [ByteArray.size]; omega) (fun j b hb => ascB_at h3 j b (by simpa using hb))).mono ?_
  rintro e w' ⟨rfl, hb⟩
  exact ⟨_, rfl, rfl, Kp.of_below hb⟩

theorem k_internal_strconv_lower (c1 : Int) (r : (Int)) (H : m_internal_strconv_lower c1 = some r) : Fn Tryz.prog 236 [vval (.int .u8 c1)] (resOf [vval (.int .u8 r)]) := by
  refine ⟨by kernel_rfl, pure_of (us := [vval (.int .u8 r)]) Tryz.func236 rfl rfl rfl rfl fun X hN => ?_⟩
  unfold m_internal_strconv_lower at H
  refine awp_seq ?_
  refine awp_plain hN rfl ?_
  refine seq_run0 (stp_assign (.dat _) rfl) ?_
  refine awp_seq ?_
  refine awp_plain hN rfl ?_
  refine seq_run0 (stp_move (.dat _) rfl) ?_
  refine seq_run0 (stp_dat (stp_or rfl rfl) rfl) ?_
  refine seq_run0 (stp_assign (.dat _) rfl) ?_
  refine awp_ret ?_
  cases H
  exact ⟨trivial, .inl rfl, trivial⟩
theorem k_internal_strconv_underscoreOK (v1 : Bs) (r : (Bool)) (H : m_internal_strconv_underscoreOK v1 = some r) : Fn Tryz.prog 237 [vstr v1] (resOf [vbool r]) := by
  refine ⟨by kernel_rfl, pure_of (us := [vbool r]) Tryz.func237 rfl rfl rfl rfl fun X hN => ?_⟩
  unfold m_internal_strconv_underscoreOK at H
  refine awp_seq ?_
  refine awp_plain hN rfl ?_
  refine seq_run0 (stp_assign (.dat _) rfl) ?_
  refine awp_seq ?_
  refine awp_plain hN rfl ?_
  refine seq_run0 (stp_assign (.dat _) rfl) ?_
  refine awp_seq ?_
  refine awp_plain hN rfl ?_
  refine seq_run0 (stp_assign (.dat _) rfl) ?_
  refine awp_joinE (ι := Bs) (fun i => [(0, .dat (vstr i)), (3, .dat (vval (.int .i32 94))), (4, .dat (vint 0))]) (fun i => []) (fun i => internal_strconv_underscoreOK_J1 i = some r) (fun i => rfl) ?_ ?_
  · skip
    refine awp_joinE (ι := Bool) (fun i => [(0, .dat (vstr v1)), (3, .dat (vval (.int .i32 94))), (4, .dat (vint 0)), (18, .dat (vbool i))]) (fun i => []) (fun i => internal_strconv_underscoreOK_J2 v1 i = some r) (fun i => rfl) ?_ ?_
    · skip
      refine awp_plain hN rfl ?_
      refine seq_run0 (stp_move (.dat _) rfl) ?_
      refine seq_run0 (stp_len_str tyU9 rfl) ?_
      refine seq_run0 (stp_geq rfl rfl) ?_
      refine seq_run0 (stp_move (.dat _) rfl) ?_
      refine seq_split (j := 3) rfl rfl (fun h2 => ?_) (fun h2 => ?_) rfl
      · have h3 := un1 h2
        replace H := ift h3 H
        refine seq_g0 rfl rfl h2 (stp_move (.dat _) rfl) ?_
        obtain ⟨x4, h5, H⟩ := bnd H
        refine seq_g0 rfl rfl h2 (t_byte tyU9 rfl rfl h5) ?_
        refine seq_g0 rfl rfl h2 (stp_eql rfl rfl) ?_
        refine seq_g0 rfl rfl h2 (stp_move (.dat _) rfl) ?_
        refine seq_split (j := 7) rfl rfl (fun h6 => ?_) (fun h6 => ?_) rfl
        · have h7 := un3 h6
          replace H := iff_ h7 H
          refine seq_g0 rfl rfl h6 (stp_move (.dat _) rfl) ?_
          refine seq_g0 rfl rfl h6 (t_byte tyU9 rfl rfl h5) ?_
          refine seq_g0 rfl rfl h6 (stp_eql rfl rfl) ?_
          refine seq_g0 rfl rfl h2 (stp_pick_f rfl (bFF h7) rfl) ?_
          refine seq_run0 (stp_pick_t rfl (bTT h3) rfl) ?_
          exact ⟨decide ((x4.toNat : Int) = 43), H, ⟨rfl, rfl, rfl, rfl, trivial⟩, trivial⟩
        · have h8 := un4 h6
          replace H := ift h8 H
          refine seq_skip rfl rfl h6 ?_
          refine seq_skip rfl rfl h6 ?_
          refine seq_skip rfl rfl h6 ?_
          refine seq_g0 rfl rfl h2 (stp_pick_t rfl (bTT h8) rfl) ?_
          refine seq_run0 (stp_pick_t rfl (bTT h3) rfl) ?_
          exact ⟨true, H, ⟨rfl, rfl, rfl, rfl, trivial⟩, trivial⟩
      · have h9 := un2 h2
        replace H := iff_ h9 H
        refine seq_skip rfl rfl h2 ?_
        refine seq_skip rfl rfl h2 ?_
        refine seq_skip rfl rfl h2 ?_
        refine seq_skip rfl rfl h2 ?_
        refine seq_skipU rfl rfl ?_
        refine seq_skipU rfl rfl ?_
        refine seq_skipU rfl rfl ?_
        refine seq_skip rfl rfl h2 ?_
        refine seq_run0 (stp_pick_f rfl (bFF h9) rfl) ?_
        exact ⟨false, H, ⟨rfl, rfl, rfl, rfl, trivial⟩, trivial⟩
    · rintro v10 H
      replace H : internal_strconv_underscoreOK_J2 v1 v10 = some r := H
      unfold internal_strconv_underscoreOK_J2 at H
      refine awp_cond _ rfl (fun h11 => ?_) (fun h11 => ?_)
      · replace H := ift h11 H
        refine awp_plain hN rfl ?_
        refine seq_run0 (stp_move (.dat _) rfl) ?_
        obtain ⟨l12, h13, H⟩ := bnd H
        refine seq_run0 (t_subS tyU9 rfl rfl rfl h13) ?_
        refine seq_run0 (stp_assign (.dat _) rfl) ?_
        exact ⟨l12, H, ⟨rfl, rfl, rfl, trivial⟩, trivial⟩
      · replace H := iff_ h11 H
        refine awp_skip ?_
        exact ⟨v1, H, ⟨rfl, rfl, rfl, trivial⟩, trivial⟩
  · rintro v14 H
    replace H : internal_strconv_underscoreOK_J1 v14 = some r := H
    unfold internal_strconv_underscoreOK_J1 at H
    refine awp_seq ?_
    refine awp_plain hN rfl ?_
    refine seq_run0 (stp_assign (.dat _) rfl) ?_
    refine awp_joinE (ι := Int × Int × Bool) (fun i => [(0, .dat (vstr v14)), (3, .dat (vval (.int .i32 i.1))), (4, .dat (vint i.2.1)), (5, .dat (vbool i.2.2))]) (fun i => []) (fun i => internal_strconv_underscoreOK_J3 v14 i.1 i.2.1 i.2.2 = some r) (fun i => rfl) ?_ ?_
    · skip
      refine awp_joinE (ι := Bool) (fun i => [(0, .dat (vstr v14)), (3, .dat (vval (.int .i32 94))), (4, .dat (vint 0)), (5, .dat (vbool false)), (46, .dat (vbool i))]) (fun i => []) (fun i => internal_strconv_underscoreOK_J4 v14 i = some r) (fun i => rfl) ?_ ?_
      · skip
        refine awp_plain hN rfl ?_
        refine seq_run0 (stp_move (.dat _) rfl) ?_
        refine seq_run0 (stp_len_str tyU9 rfl) ?_
        refine seq_run0 (stp_geq rfl rfl) ?_
        refine seq_run0 (stp_move (.dat _) rfl) ?_
        refine seq_split (j := 3) rfl rfl (fun h15 => ?_) (fun h15 => ?_) rfl
        · have h16 := un1 h15
          replace H := ift h16 H
          refine seq_g0 rfl rfl h15 (stp_move (.dat _) rfl) ?_
          obtain ⟨x17, h18, H⟩ := bnd H
          refine seq_g0 rfl rfl h15 (t_byte tyU9 rfl rfl h18) ?_
          refine seq_g0 rfl rfl h15 (stp_eql rfl rfl) ?_
          refine seq_run0 (stp_pick_t rfl (bTT h16) rfl) ?_
          refine seq_run0 (stp_move (.dat _) rfl) ?_
          refine seq_split (j := 8) rfl rfl (fun h19 => ?_) (fun h19 => ?_) rfl
          · have h20 := un1 h19
            replace H := ift h20 H
            refine seq_g0 rfl rfl h19 (stp_move (.dat _) rfl) ?_
            obtain ⟨x21, h22, H⟩ := bnd H
            refine seq_g0 rfl rfl h19 (t_byte tyU9 rfl rfl h22) ?_
            obtain ⟨r23, h24, H⟩ := bnd H
            refine seq_g0 rfl rfl h19 (stp_call (k_internal_strconv_lower (x21.toNat : Int) r23 h24) ⟨.inl rfl, trivial⟩) ?_
            refine seq_g0 rfl rfl h19 (stp_eql rfl rfl) ?_
            refine seq_g0 rfl rfl h19 (stp_move (.dat _) rfl) ?_
            refine seq_split (j := 13) rfl rfl (fun h25 => ?_) (fun h25 => ?_) rfl
            · have h26 := un3 h25
              replace H := iff_ h26 H
              refine seq_g0 rfl rfl h25 (stp_move (.dat _) rfl) ?_
              refine seq_g0 rfl rfl h25 (t_byte tyU9 rfl rfl h22) ?_
              obtain ⟨r27, h28, H⟩ := bnd H
              refine seq_g0 rfl rfl h25 (stp_call (k_internal_strconv_lower (x21.toNat : Int) r27 h28) ⟨.inl rfl, trivial⟩) ?_
              refine seq_g0 rfl rfl h25 (stp_eql rfl rfl) ?_
              refine seq_g0 rfl rfl h19 (stp_pick_f rfl (bFF h26) rfl) ?_
              refine seq_g0 rfl rfl h19 (stp_move (.dat _) rfl) ?_
              refine seq_split (j := 19) rfl rfl (fun h29 => ?_) (fun h29 => ?_) rfl
              · have h30 := un3 h29
                replace H := iff_ h30 H
                refine seq_g0 rfl rfl h29 (stp_move (.dat _) rfl) ?_
                refine seq_g0 rfl rfl h29 (t_byte tyU9 rfl rfl h22) ?_
                obtain ⟨r31, h32, H⟩ := bnd H
                refine seq_g0 rfl rfl h29 (stp_call (k_internal_strconv_lower (x21.toNat : Int) r31 h32) ⟨.inl rfl, trivial⟩) ?_
                refine seq_g0 rfl rfl h29 (stp_eql rfl rfl) ?_
                refine seq_g0 rfl rfl h19 (stp_pick_f rfl (bFF h30) rfl) ?_
                refine seq_run0 (stp_pick_t rfl (bTT h20) rfl) ?_
                exact ⟨decide (r31 = 120), H, ⟨rfl, rfl, rfl, rfl, rfl, trivial⟩, trivial⟩
              · have h33 := un4 h29
                replace H := ift h33 H
                refine seq_skip rfl rfl h29 ?_
                refine seq_skip rfl rfl h29 ?_
                refine seq_skip rfl rfl h29 ?_
                refine seq_skip rfl rfl h29 ?_
                refine seq_g0 rfl rfl h19 (stp_pick_t rfl (bTT h33) rfl) ?_
                refine seq_run0 (stp_pick_t rfl (bTT h20) rfl) ?_
                exact ⟨true, H, ⟨rfl, rfl, rfl, rfl, rfl, trivial⟩, trivial⟩
            · have h34 := un4 h25
              replace H := ift h34 H
              refine seq_skip rfl rfl h25 ?_
              refine seq_skip rfl rfl h25 ?_
              refine seq_skip rfl rfl h25 ?_
              refine seq_skip rfl rfl h25 ?_
              refine seq_g0 rfl rfl h19 (stp_pick_t rfl (bTT h34) rfl) ?_
              refine seq_g0 rfl rfl h19 (stp_move (.dat _) rfl) ?_
              refine seq_skip rfl rfl rfl ?_
              refine seq_skip rfl rfl rfl ?_
              refine seq_skip rfl rfl rfl ?_
              refine seq_skip rfl rfl rfl ?_
              refine seq_g0 rfl rfl h19 (stp_pick_t rfl rfl rfl) ?_
              refine seq_run0 (stp_pick_t rfl (bTT h20) rfl) ?_
              exact ⟨true, H, ⟨rfl, rfl, rfl, rfl, rfl, trivial⟩, trivial⟩
          · have h35 := un2 h19
            replace H := iff_ h35 H
            refine seq_skip rfl rfl h19 ?_
            refine seq_skip rfl rfl h19 ?_
            refine seq_skip rfl rfl h19 ?_
            refine seq_skip rfl rfl h19 ?_
            refine seq_skip rfl rfl h19 ?_
            refine seq_skipU rfl rfl ?_
            refine seq_skipU rfl rfl ?_
            refine seq_skipU rfl rfl ?_
            refine seq_skipU rfl rfl ?_
            refine seq_skip rfl rfl h19 ?_
            refine seq_skip rfl rfl h19 ?_
            refine seq_skipU rfl rfl ?_
            refine seq_skipU rfl rfl ?_
            refine seq_skipU rfl rfl ?_
            refine seq_skipU rfl rfl ?_
            refine seq_skip rfl rfl h19 ?_
            refine seq_run0 (stp_pick_f rfl (bFF h35) rfl) ?_
            exact ⟨false, H, ⟨rfl, rfl, rfl, rfl, rfl, trivial⟩, trivial⟩
        · have h36 := un2 h15
          replace H := iff_ h36 H
          refine seq_skip rfl rfl h15 ?_
          refine seq_skip rfl rfl h15 ?_
          refine seq_skip rfl rfl h15 ?_
          refine seq_run0 (stp_pick_f rfl (bFF h36) rfl) ?_
          refine seq_run0 (stp_move (.dat _) rfl) ?_
          refine seq_skip rfl rfl rfl ?_
          refine seq_skip rfl rfl rfl ?_
          refine seq_skip rfl rfl rfl ?_
          refine seq_skip rfl rfl rfl ?_
          refine seq_skip rfl rfl rfl ?_
          refine seq_skipU rfl rfl ?_
          refine seq_skipU rfl rfl ?_
          refine seq_skipU rfl rfl ?_
          refine seq_skipU rfl rfl ?_
          refine seq_skip rfl rfl rfl ?_
          refine seq_skip rfl rfl rfl ?_
          refine seq_skipU rfl rfl ?_
          refine seq_skipU rfl rfl ?_
          refine seq_skipU rfl rfl ?_
          refine seq_skipU rfl rfl ?_
          refine seq_skip rfl rfl rfl ?_
          refine seq_run0 (stp_pick_f rfl rfl rfl) ?_
          exact ⟨false, H, ⟨rfl, rfl, rfl, rfl, rfl, trivial⟩, trivial⟩
      · rintro v37 H
        replace H : internal_strconv_underscoreOK_J4 v14 v37 = some r := H
        unfold internal_strconv_underscoreOK_J4 at H
        refine awp_cond _ rfl (fun h38 => ?_) (fun h38 => ?_)
        · replace H := ift h38 H
          refine awp_seq ?_
          refine awp_plain hN rfl ?_
          refine seq_run0 (stp_assign (.dat _) rfl) ?_
          refine awp_seq ?_
          refine awp_plain hN rfl ?_
          refine seq_run0 (stp_assign (.dat _) rfl) ?_
          refine awp_plain hN rfl ?_
          refine seq_run0 (stp_move (.dat _) rfl) ?_
          obtain ⟨x39, h40, H⟩ := bnd H
          refine seq_run0 (t_byte tyU9 rfl rfl h40) ?_
          obtain ⟨r41, h42, H⟩ := bnd H
          refine seq_run0 (stp_call (k_internal_strconv_lower (x39.toNat : Int) r41 h42) ⟨.inl rfl, trivial⟩) ?_
          refine seq_run0 (stp_eql rfl rfl) ?_
          refine seq_run0 (stp_assign (.dat _) rfl) ?_
          exact ⟨(48, 2, decide (r41 = 120)), H, ⟨rfl, rfl, rfl, rfl, trivial⟩, trivial⟩
        · replace H := iff_ h38 H
          refine awp_skip ?_
          exact ⟨(94, 0, false), H, ⟨rfl, rfl, rfl, rfl, trivial⟩, trivial⟩
    · rintro ⟨v43, v44, v45⟩ H
      replace H : internal_strconv_underscoreOK_J3 v14 v43 v44 v45 = some r := H
      unfold internal_strconv_underscoreOK_J3 at H
      refine awp_joinE (ι := Int) (fun i => [(3, .dat (vval (.int .i32 i)))]) (fun i => []) (fun i => internal_strconv_underscoreOK_J5 i = some r) (fun i => rfl) ?_ ?_
      · skip
        refine awp_block ?_
        refine awp_iter (fun (s : Int × Int) => [(0, .dat (vstr v14)), (3, .dat (vval (.int .i32 s.1))), (4, .dat (vint s.2)), (5, .dat (vbool v45))]) (fun (s : Int × Int) => []) (v43, v44) H ⟨rfl, rfl, rfl, rfl, trivial⟩ trivial (fun _ => rfl) ?_
        rintro ⟨v46, v47⟩ q48 H hq48
        replace H : internal_strconv_underscoreOK_L6 v14 v45 v46 v47 = some q48 := H
        unfold internal_strconv_underscoreOK_L6 at H
        refine awp_seq ?_
        refine awp_seq ?_
        refine awp_plain hN rfl ?_
        refine seq_run0 (stp_move (.dat _) rfl) ?_
        refine seq_run0 (stp_move (.dat _) rfl) ?_
        refine seq_run0 (stp_len_str tyU9 rfl) ?_
        refine seq_run0 (stp_lss rfl rfl) ?_
        refine awp_cond _ rfl (fun h49 => ?_) (fun h49 => ?_)
        · replace H := ift h49 H
          refine awp_skip ?_
          refine awp_joinE (ι := Int) (fun i => [(0, .dat (vstr v14)), (3, .dat (vval (.int .i32 i))), (4, .dat (vint v47)), (5, .dat (vbool v45))]) (fun i => []) (fun i => internal_strconv_underscoreOK_J7 v47 i = some q48) (fun i => rfl) ?_ ?_
          · skip
            refine awp_block ?_
            refine awp_seq ?_
            refine awp_joinE (ι := Bool) (fun i => [(0, .dat (vstr v14)), (3, .dat (vval (.int .i32 v46))), (4, .dat (vint v47)), (5, .dat (vbool v45)), (83, .dat (vbool i))]) (fun i => []) (fun i => internal_strconv_underscoreOK_J8 v14 v46 v47 i = some q48) (fun i => rfl) ?_ ?_
            · skip
              refine awp_plain hN rfl ?_
              refine seq_run0 (stp_move (.dat _) rfl) ?_
              refine seq_run0 (stp_move (.dat _) rfl) ?_
              obtain ⟨x50, h51, H⟩ := bnd H
              refine seq_run0 (t_byteI tyU9 rfl rfl h51) ?_
              refine seq_run0 (stp_leq rfl rfl) ?_
              refine seq_run0 (stp_move (.dat _) rfl) ?_
              refine seq_split (j := 4) rfl rfl (fun h52 => ?_) (fun h52 => ?_) rfl
              · have h53 := un1 h52
                replace H := ift h53 H
                refine seq_g0 rfl rfl h52 (stp_move (.dat _) rfl) ?_
                refine seq_g0 rfl rfl h52 (stp_move (.dat _) rfl) ?_
                refine seq_g0 rfl rfl h52 (t_byteI tyU9 rfl rfl h51) ?_
                refine seq_g0 rfl rfl h52 (stp_leq rfl rfl) ?_
                refine seq_run0 (stp_pick_t rfl (bTT h53) rfl) ?_
                refine seq_run0 (stp_move (.dat _) rfl) ?_
                refine seq_split (j := 10) rfl rfl (fun h54 => ?_) (fun h54 => ?_) rfl
                · have h55 := un3 h54
                  replace H := iff_ h55 H
                  refine seq_g0 rfl rfl h54 (stp_move (.dat _) rfl) ?_
                  refine seq_g0 rfl rfl h54 (stp_move (.dat _) rfl) ?_
                  refine seq_split (j := 12) rfl rfl (fun h56 => ?_) (fun h56 => ?_) rfl
                  · have h57 := un1 h56
                    replace H := ift h57 H
                    refine seq_g0 rfl rfl h56 (stp_move (.dat _) rfl) ?_
                    refine seq_g0 rfl rfl h56 (stp_move (.dat _) rfl) ?_
                    refine seq_g0 rfl rfl h56 (t_byteI tyU9 rfl rfl h51) ?_
                    obtain ⟨r58, h59, H⟩ := bnd H
                    refine seq_g0 rfl rfl h56 (stp_call (k_internal_strconv_lower (x50.toNat : Int) r58 h59) ⟨.inl rfl, trivial⟩) ?_
                    refine seq_g0 rfl rfl h56 (stp_leq rfl rfl) ?_
                    refine seq_g0 rfl rfl h54 (stp_pick_t rfl (bTT h57) rfl) ?_
                    refine seq_g0 rfl rfl h54 (stp_move (.dat _) rfl) ?_
                    refine seq_split (j := 19) rfl rfl (fun h60 => ?_) (fun h60 => ?_) rfl
                    · have h61 := un1 h60
                      replace H := ift h61 H
                      refine seq_g0 rfl rfl h60 (stp_move (.dat _) rfl) ?_
                      refine seq_g0 rfl rfl h60 (stp_move (.dat _) rfl) ?_
                      refine seq_g0 rfl rfl h60 (t_byteI tyU9 rfl rfl h51) ?_
                      obtain ⟨r62, h63, H⟩ := bnd H
                      refine seq_g0 rfl rfl h60 (stp_call (k_internal_strconv_lower (x50.toNat : Int) r62 h63) ⟨.inl rfl, trivial⟩) ?_
                      refine seq_g0 rfl rfl h60 (stp_leq rfl rfl) ?_
                      refine seq_g0 rfl rfl h54 (stp_pick_t rfl (bTT h61) rfl) ?_
                      refine seq_run0 (stp_pick_f rfl (bFF h55) rfl) ?_
                      exact ⟨decide (r62 ≤ 102), H, ⟨rfl, rfl, rfl, rfl, rfl, trivial⟩, trivial⟩
                    · have h64 := un2 h60
                      replace H := iff_ h64 H
                      refine seq_skip rfl rfl h60 ?_
                      refine seq_skip rfl rfl h60 ?_
                      refine seq_skip rfl rfl h60 ?_
                      refine seq_skip rfl rfl h60 ?_
                      refine seq_skip rfl rfl h60 ?_
                      refine seq_g0 rfl rfl h54 (stp_pick_f rfl (bFF h64) rfl) ?_
                      refine seq_run0 (stp_pick_f rfl (bFF h55) rfl) ?_
                      exact ⟨false, H, ⟨rfl, rfl, rfl, rfl, rfl, trivial⟩, trivial⟩
                  · have h65 := un2 h56
                    replace H := iff_ h65 H
                    refine seq_skip rfl rfl h56 ?_
                    refine seq_skip rfl rfl h56 ?_
                    refine seq_skip rfl rfl h56 ?_
                    refine seq_skip rfl rfl h56 ?_
                    refine seq_skip rfl rfl h56 ?_
                    refine seq_g0 rfl rfl h54 (stp_pick_f rfl (bFF h65) rfl) ?_
                    refine seq_g0 rfl rfl h54 (stp_move (.dat _) rfl) ?_
                    refine seq_skip rfl rfl rfl ?_
                    refine seq_skip rfl rfl rfl ?_
                    refine seq_skip rfl rfl rfl ?_
                    refine seq_skip rfl rfl rfl ?_
                    refine seq_skip rfl rfl rfl ?_
                    refine seq_g0 rfl rfl h54 (stp_pick_f rfl rfl rfl) ?_
                    refine seq_run0 (stp_pick_f rfl (bFF h55) rfl) ?_
                    exact ⟨false, H, ⟨rfl, rfl, rfl, rfl, rfl, trivial⟩, trivial⟩
                · have h66 := un4 h54
                  replace H := ift h66 H
                  refine seq_skip rfl rfl h54 ?_
                  refine seq_skip rfl rfl h54 ?_
                  refine seq_skipU rfl rfl ?_
                  refine seq_skipU rfl rfl ?_
                  refine seq_skipU rfl rfl ?_
                  refine seq_skipU rfl rfl ?_
                  refine seq_skipU rfl rfl ?_
                  refine seq_skip rfl rfl h54 ?_
                  refine seq_skip rfl rfl h54 ?_
                  refine seq_skipU rfl rfl ?_
                  refine seq_skipU rfl rfl ?_
                  refine seq_skipU rfl rfl ?_
                  refine seq_skipU rfl rfl ?_
                  refine seq_skipU rfl rfl ?_
                  refine seq_skip rfl rfl h54 ?_
                  refine seq_run0 (stp_pick_t rfl (bTT h66) rfl) ?_
                  exact ⟨true, H, ⟨rfl, rfl, rfl, rfl, rfl, trivial⟩, trivial⟩
              · have h67 := un2 h52
                replace H := iff_ h67 H
                refine seq_skip rfl rfl h52 ?_
                refine seq_skip rfl rfl h52 ?_
                refine seq_skip rfl rfl h52 ?_
                refine seq_skip rfl rfl h52 ?_
                refine seq_run0 (stp_pick_f rfl (bFF h67) rfl) ?_
                refine seq_run0 (stp_move (.dat _) rfl) ?_
                refine seq_g0 rfl rfl rfl (stp_move (.dat _) rfl) ?_
                refine seq_g0 rfl rfl rfl (stp_move (.dat _) rfl) ?_
                refine seq_split (j := 12) rfl rfl (fun h68 => ?_) (fun h68 => ?_) rfl
                · have h69 := un1 h68
                  replace H := ift h69 H
                  refine seq_g0 rfl rfl h68 (stp_move (.dat _) rfl) ?_
                  refine seq_g0 rfl rfl h68 (stp_move (.dat _) rfl) ?_
                  refine seq_g0 rfl rfl h68 (t_byteI tyU9 rfl rfl h51) ?_
                  obtain ⟨r70, h71, H⟩ := bnd H
                  refine seq_g0 rfl rfl h68 (stp_call (k_internal_strconv_lower (x50.toNat : Int) r70 h71) ⟨.inl rfl, trivial⟩) ?_
                  refine seq_g0 rfl rfl h68 (stp_leq rfl rfl) ?_
                  refine seq_g0 rfl rfl rfl (stp_pick_t rfl (bTT h69) rfl) ?_
                  refine seq_g0 rfl rfl rfl (stp_move (.dat _) rfl) ?_
                  refine seq_split (j := 19) rfl rfl (fun h72 => ?_) (fun h72 => ?_) rfl
                  · have h73 := un1 h72
                    replace H := ift h73 H
                    refine seq_g0 rfl rfl h72 (stp_move (.dat _) rfl) ?_
                    refine seq_g0 rfl rfl h72 (stp_move (.dat _) rfl) ?_
                    refine seq_g0 rfl rfl h72 (t_byteI tyU9 rfl rfl h51) ?_
                    obtain ⟨r74, h75, H⟩ := bnd H
                    refine seq_g0 rfl rfl h72 (stp_call (k_internal_strconv_lower (x50.toNat : Int) r74 h75) ⟨.inl rfl, trivial⟩) ?_
                    refine seq_g0 rfl rfl h72 (stp_leq rfl rfl) ?_
                    refine seq_g0 rfl rfl rfl (stp_pick_t rfl (bTT h73) rfl) ?_
                    refine seq_run0 (stp_pick_f rfl rfl rfl) ?_
                    exact ⟨decide (r74 ≤ 102), H, ⟨rfl, rfl, rfl, rfl, rfl, trivial⟩, trivial⟩
                  · have h76 := un2 h72
                    replace H := iff_ h76 H
                    refine seq_skip rfl rfl h72 ?_
                    refine seq_skip rfl rfl h72 ?_
                    refine seq_skip rfl rfl h72 ?_
                    refine seq_skip rfl rfl h72 ?_
                    refine seq_skip rfl rfl h72 ?_
                    refine seq_g0 rfl rfl rfl (stp_pick_f rfl (bFF h76) rfl) ?_
                    refine seq_run0 (stp_pick_f rfl rfl rfl) ?_
                    exact ⟨false, H, ⟨rfl, rfl, rfl, rfl, rfl, trivial⟩, trivial⟩
                · have h77 := un2 h68
                  replace H := iff_ h77 H
                  refine seq_skip rfl rfl h68 ?_
                  refine seq_skip rfl rfl h68 ?_
                  refine seq_skip rfl rfl h68 ?_
                  refine seq_skip rfl rfl h68 ?_
                  refine seq_skip rfl rfl h68 ?_
                  refine seq_g0 rfl rfl rfl (stp_pick_f rfl (bFF h77) rfl) ?_
                  refine seq_g0 rfl rfl rfl (stp_move (.dat _) rfl) ?_
                  refine seq_skip rfl rfl rfl ?_
                  refine seq_skip rfl rfl rfl ?_
                  refine seq_skip rfl rfl rfl ?_
                  refine seq_skip rfl rfl rfl ?_
                  refine seq_skip rfl rfl rfl ?_
                  refine seq_g0 rfl rfl rfl (stp_pick_f rfl rfl rfl) ?_
                  refine seq_run0 (stp_pick_f rfl rfl rfl) ?_
                  exact ⟨false, H, ⟨rfl, rfl, rfl, rfl, rfl, trivial⟩, trivial⟩
            · rintro v78 H
              replace H : internal_strconv_underscoreOK_J8 v14 v46 v47 v78 = some q48 := H
              unfold internal_strconv_underscoreOK_J8 at H
              refine awp_cond _ rfl (fun h79 => ?_) (fun h79 => ?_)
              · replace H := ift h79 H
                refine awp_seq ?_
                refine awp_plain hN rfl ?_
                refine seq_run0 (stp_assign (.dat _) rfl) ?_
                refine awp_exit ?_
                exact ⟨48, H, ⟨rfl, rfl, rfl, rfl, trivial⟩, trivial⟩
              · replace H := iff_ h79 H
                refine awp_skip ?_
                refine awp_seq ?_
                refine awp_seq ?_
                refine awp_plain hN rfl ?_
                refine seq_run0 (stp_move (.dat _) rfl) ?_
                refine seq_run0 (stp_move (.dat _) rfl) ?_
                obtain ⟨x80, h81, H⟩ := bnd H
                refine seq_run0 (t_byteI tyU9 rfl rfl h81) ?_
                refine seq_run0 (stp_eql rfl rfl) ?_
                refine awp_cond _ rfl (fun h82 => ?_) (fun h82 => ?_)
                · replace H := ift h82 H
                  refine awp_seq ?_
                  refine awp_seq ?_
                  refine awp_plain hN rfl ?_
                  refine seq_run0 (stp_move (.dat _) rfl) ?_
                  refine seq_run0 (stp_neq rfl rfl) ?_
                  refine awp_cond _ rfl (fun h83 => ?_) (fun h83 => ?_)
                  · replace H := ift h83 H
                    refine awp_seq ?_
                    refine awp_plain hN rfl ?_
                    refine seq_run0 (stp_assign (.dat _) rfl) ?_
                    refine awp_ret ?_
                    replace H := retl H hq48
                    cases H
                    exact ⟨trivial, .inl rfl, trivial⟩
                  · replace H := iff_ h83 H
                    refine awp_skip ?_
                    refine awp_seq ?_
                    refine awp_plain hN rfl ?_
                    refine seq_run0 (stp_assign (.dat _) rfl) ?_
                    refine awp_exit ?_
                    exact ⟨95, H, ⟨rfl, rfl, rfl, rfl, trivial⟩, trivial⟩
                · replace H := iff_ h82 H
                  refine awp_skip ?_
                  refine awp_seq ?_
                  refine awp_seq ?_
                  refine awp_plain hN rfl ?_
                  refine seq_run0 (stp_move (.dat _) rfl) ?_
                  refine seq_run0 (stp_eql rfl rfl) ?_
                  refine awp_cond _ rfl (fun h84 => ?_) (fun h84 => ?_)
                  · replace H := ift h84 H
                    refine awp_seq ?_
                    refine awp_plain hN rfl ?_
                    refine seq_run0 (stp_assign (.dat _) rfl) ?_
                    refine awp_ret ?_
                    replace H := retl H hq48
                    cases H
                    exact ⟨trivial, .inl rfl, trivial⟩
                  · replace H := iff_ h84 H
                    refine awp_skip ?_
                    refine awp_plain hN rfl ?_
                    refine seq_run0 (stp_assign (.dat _) rfl) ?_
                    exact ⟨33, H, ⟨rfl, rfl, rfl, rfl, trivial⟩, trivial⟩
          · rintro v85 H
            replace H : internal_strconv_underscoreOK_J7 v47 v85 = some q48 := H
            unfold internal_strconv_underscoreOK_J7 at H
            refine awp_plain hN rfl ?_
            refine seq_run0 (stp_move (.dat _) rfl) ?_
            refine seq_run0 (stp_wrap _ rfl rfl (.inl ⟨rfl, rfl⟩)) ?_
            refine seq_run0 (stp_assign (.dat _) rfl) ?_
            exact ⟨_, backl H, ⟨rfl, rfl, rfl, rfl, trivial⟩, trivial⟩
        · replace H := iff_ h49 H
          refine awp_exit ?_
          replace H := outl H hq48
          exact ⟨v46, H, ⟨rfl, trivial⟩, trivial⟩
      · rintro v86 H
        replace H : internal_strconv_underscoreOK_J5 v86 = some r := H
        unfold internal_strconv_underscoreOK_J5 at H
        refine awp_seq ?_
        refine awp_plain hN rfl ?_
        refine seq_run0 (stp_move (.dat _) rfl) ?_
        refine seq_run0 (stp_neq rfl rfl) ?_
        refine seq_run0 (stp_assign (.dat _) rfl) ?_
        refine awp_ret ?_
        cases H
        exact ⟨trivial, .inl rfl, trivial⟩
end Go.Proofs.YtbejggfkfaibeaaGreatDoor
