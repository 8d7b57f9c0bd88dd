/- Walks along the models. Printed by a program. -/
import Derived.Test.YtbicifgfibafmaaGreatDoorYpw1
namespace Go.Proofs.YtbicifgfibafmaaGreatDoor
open Go.RowKit
set_option linter.unusedVariables false
set_option maxRecDepth 20000
set_option maxHeartbeats 2000000
theorem k_cache_opaque (s1 : Bs) (r : (Bs × Bool)) (H : m_cache_opaque s1 = some r) : Fn Tryz.prog 28 [vstr s1] (resOf [vstr r.1, vbool r.2]) := by
  refine ⟨by kernel_rfl, pure_of (us := [vstr r.1, vbool r.2]) Tryz.func28 rfl rfl rfl rfl fun X hN => ?_⟩
  unfold m_cache_opaque at H
  refine awp_seq ?_
  refine awp_plain hN rfl ?_
  refine seq_run0 (stp_assign (.dat _) rfl) ?_
  refine seq_run0 (stp_assign (.dat _) rfl) ?_
  refine awp_seq ?_
  refine awp_plain hN rfl ?_
  refine seq_run0 (stp_move (.dat _) rfl) ?_
  obtain ⟨r2, h3, H⟩ := bnd H
  refine seq_run0 (stp_call (k_strings_TrimPrefix s1 [87, 47] r2 h3) ⟨.inl rfl, .inl rfl, trivial⟩) ?_
  refine seq_run0 (stp_assign (.dat _) rfl) ?_
  refine awp_seq ?_
  refine awp_joinE (ι := Bool) (fun i => [(0, .dat (vstr r2)), (22, .dat (vbool i))]) (fun i => []) (fun i => cache_opaque_J1 r2 i = some r) (fun i => rfl) ?_ ?_
  · skip
    refine awp_plain hN rfl ?_
    refine seq_run0 (stp_move (.dat _) rfl) ?_
    refine seq_run0 (stp_len_str tyU9 rfl) ?_
    refine seq_run0 (stp_lss rfl rfl) ?_
    refine seq_run0 (stp_move (.dat _) rfl) ?_
    refine seq_split (j := 3) rfl rfl (fun h4 => ?_) (fun h4 => ?_) rfl
    · have h5 := un3 h4
      replace H := iff_ h5 H
      refine seq_g0 rfl rfl h4 (stp_move (.dat _) rfl) ?_
      obtain ⟨x6, h7, H⟩ := bnd H
      refine seq_g0 rfl rfl h4 (t_byte tyU9 rfl rfl h7) ?_
      refine seq_g0 rfl rfl h4 (stp_neq rfl rfl) ?_
      refine seq_run0 (stp_pick_f rfl (bFF h5) rfl) ?_
      refine seq_run0 (stp_move (.dat _) rfl) ?_
      refine seq_split (j := 8) rfl rfl (fun h8 => ?_) (fun h8 => ?_) rfl
      · have h9 := un3 h8
        replace H := iff_ h9 H
        refine seq_g0 rfl rfl h8 (stp_move (.dat _) rfl) ?_
        refine seq_g0 rfl rfl h8 (stp_move (.dat _) rfl) ?_
        refine seq_g0 rfl rfl h8 (stp_len_str tyU9 rfl) ?_
        refine seq_g0 rfl rfl h8 (stp_wrap _ rfl rfl (.inr (.inl ⟨rfl, rfl⟩))) ?_
        obtain ⟨x10, h11, H⟩ := bnd H
        refine seq_g0 rfl rfl h8 (t_byteI tyU9 rfl rfl h11) ?_
        refine seq_g0 rfl rfl h8 (stp_neq rfl rfl) ?_
        refine seq_run0 (stp_pick_f rfl (bFF h9) rfl) ?_
        exact ⟨decide ((x10.toNat : Int) ≠ 34), H, ⟨rfl, rfl, trivial⟩, trivial⟩
      · have h12 := un4 h8
        replace H := ift h12 H
        refine seq_skip rfl rfl h8 ?_
        refine seq_skip rfl rfl h8 ?_
        refine seq_skip rfl rfl h8 ?_
        refine seq_skip rfl rfl h8 ?_
        refine seq_skip rfl rfl h8 ?_
        refine seq_skip rfl rfl h8 ?_
        refine seq_run0 (stp_pick_t rfl (bTT h12) rfl) ?_
        exact ⟨true, H, ⟨rfl, rfl, trivial⟩, trivial⟩
    · have h13 := un4 h4
      replace H := ift h13 H
      refine seq_skip rfl rfl h4 ?_
      refine seq_skip rfl rfl h4 ?_
      refine seq_skip rfl rfl h4 ?_
      refine seq_run0 (stp_pick_t rfl (bTT h13) rfl) ?_
      refine seq_run0 (stp_move (.dat _) rfl) ?_
      refine seq_skip rfl rfl rfl ?_
      refine seq_skip rfl rfl rfl ?_
      refine seq_skip rfl rfl rfl ?_
      refine seq_skip rfl rfl rfl ?_
      refine seq_skip rfl rfl rfl ?_
      refine seq_skip rfl rfl rfl ?_
      refine seq_run0 (stp_pick_t rfl rfl rfl) ?_
      exact ⟨true, H, ⟨rfl, rfl, trivial⟩, trivial⟩
  · rintro v14 H
    replace H : cache_opaque_J1 r2 v14 = some r := H
    unfold cache_opaque_J1 at H
    refine awp_cond _ rfl (fun h15 => ?_) (fun h15 => ?_)
    · replace H := ift h15 H
      refine awp_seq ?_
      refine awp_plain hN rfl ?_
      refine seq_run0 (stp_assign (.dat _) rfl) ?_
      refine seq_run0 (stp_assign (.dat _) rfl) ?_
      refine awp_ret ?_
      cases H
      exact ⟨trivial, .inl rfl, .inl rfl, trivial⟩
    · replace H := iff_ h15 H
      refine awp_skip ?_
      refine awp_seq ?_
      refine awp_plain hN rfl ?_
      refine seq_run0 (stp_move (.dat _) rfl) ?_
      refine seq_run0 (stp_move (.dat _) rfl) ?_
      refine seq_run0 (stp_len_str tyU9 rfl) ?_
      refine seq_run0 (stp_wrap _ rfl rfl (.inr (.inl ⟨rfl, rfl⟩))) ?_
      obtain ⟨l16, h17, H⟩ := bnd H
      refine seq_run0 (t_subS tyU9 rfl rfl rfl h17) ?_
      refine seq_run0 (stp_assign (.dat _) rfl) ?_
      refine awp_seq ?_
      refine awp_seq ?_
      refine awp_plain hN rfl ?_
      refine seq_run0 (stp_move (.dat _) rfl) ?_
      refine seq_run0 (stp_len_str tyU9 rfl) ?_
      refine seq_run0 (stp_move (.dat _) rfl) ?_
      refine awp_block ?_
      obtain ⟨h20, H⟩ := gif H
      refine awp_forL (fun (k18 : Nat) (s : Unit) => [(0, .dat (vstr l16)), (29, .dat (vint (l16.length : Int))), (30, .dat (vint (k18 : Int)))]) (fun (k18 : Nat) (s : Unit) => []) () H ⟨rfl, rfl, rfl, trivial⟩ trivial (fun _ _ => rfl) ?_ ?_
      · rintro ⟨⟩ H
        replace H : cache_opaque_E2 l16 = some r := H
        unfold cache_opaque_E2 at H
        refine awp_seq ?_
        refine awp_plain hN rfl ?_
        refine seq_run0 (stp_lss rfl rfl) ?_
        refine awp_seq ?_
        refine awp_cond _ rfl (fun h => (lt_t h).elim) (fun h => ?_)
        refine awp_exit ?_
        refine awp_seq ?_
        refine awp_plain hN rfl ?_
        refine seq_run0 (stp_move (.dat _) rfl) ?_
        refine seq_run0 (stp_assign (.dat _) rfl) ?_
        refine seq_run0 (stp_assign (.dat _) rfl) ?_
        refine awp_ret ?_
        cases H
        exact ⟨trivial, .inl rfl, .inl rfl, trivial⟩
      · rintro k18 x21 ⟨⟩ q19 h22 h23 H hq19
        replace H : cache_opaque_L2 k18 x21 = some q19 := H
        unfold cache_opaque_L2 at H
        refine awp_seq ?_
        refine awp_plain hN rfl ?_
        refine seq_run0 (stp_lss rfl rfl) ?_
        refine awp_seq ?_
        refine awp_cond _ rfl (fun h => ?_) (fun h => (lt_f h22 h).elim)
        refine awp_skip ?_
        refine awp_seq ?_
        refine awp_block ?_
        refine awp_seq ?_
        refine awp_plain hN rfl ?_
        refine seq_run0 (stp_move (.dat _) rfl) ?_
        refine seq_run0 (stp_assign (.dat _) rfl) ?_
        refine awp_joinE (ι := Bool) (fun i => [(0, .dat (vstr l16)), (29, .dat (vint (l16.length : Int))), (30, .dat (vint (k18 : Int))), (54, .dat (vbool i))]) (fun i => []) (fun i => cache_opaque_J3 i = some q19) (fun i => rfl) ?_ ?_
        · skip
          refine awp_plain hN rfl ?_
          refine seq_run0 (stp_move (.dat _) rfl) ?_
          refine seq_run0 (stp_move (.dat _) rfl) ?_
          refine seq_run0 (t_byte tyU9 rfl rfl h23) ?_
          refine seq_run0 (stp_lss rfl rfl) ?_
          refine seq_run0 (stp_move (.dat _) rfl) ?_
          refine seq_split (j := 4) rfl rfl (fun h24 => ?_) (fun h24 => ?_) rfl
          · have h25 := un3 h24
            replace H := iff_ h25 H
            refine seq_g0 rfl rfl h24 (stp_move (.dat _) rfl) ?_
            refine seq_g0 rfl rfl h24 (stp_move (.dat _) rfl) ?_
            refine seq_g0 rfl rfl h24 (t_byte tyU9 rfl rfl h23) ?_
            refine seq_g0 rfl rfl h24 (stp_gtr rfl rfl) ?_
            refine seq_run0 (stp_pick_f rfl (bFF h25) rfl) ?_
            refine seq_run0 (stp_move (.dat _) rfl) ?_
            refine seq_split (j := 10) rfl rfl (fun h26 => ?_) (fun h26 => ?_) rfl
            · have h27 := un3 h26
              replace H := iff_ h27 H
              refine seq_g0 rfl rfl h26 (stp_move (.dat _) rfl) ?_
              refine seq_g0 rfl rfl h26 (stp_move (.dat _) rfl) ?_
              refine seq_g0 rfl rfl h26 (t_byte tyU9 rfl rfl h23) ?_
              refine seq_g0 rfl rfl h26 (stp_eql rfl rfl) ?_
              refine seq_run0 (stp_pick_f rfl (bFF h27) rfl) ?_
              refine seq_run0 (stp_move (.dat _) rfl) ?_
              refine seq_split (j := 16) rfl rfl (fun h28 => ?_) (fun h28 => ?_) rfl
              · have h29 := un3 h28
                replace H := iff_ h29 H
                refine seq_g0 rfl rfl h28 (stp_move (.dat _) rfl) ?_
                refine seq_g0 rfl rfl h28 (stp_move (.dat _) rfl) ?_
                refine seq_g0 rfl rfl h28 (t_byte tyU9 rfl rfl h23) ?_
                refine seq_g0 rfl rfl h28 (stp_eql rfl rfl) ?_
                refine seq_run0 (stp_pick_f rfl (bFF h29) rfl) ?_
                exact ⟨decide ((x21.toNat : Int) = 44), H, ⟨rfl, rfl, rfl, rfl, trivial⟩, trivial⟩
              · have h30 := un4 h28
                replace H := ift h30 H
                refine seq_skip rfl rfl h28 ?_
                refine seq_skip rfl rfl h28 ?_
                refine seq_skip rfl rfl h28 ?_
                refine seq_skip rfl rfl h28 ?_
                refine seq_run0 (stp_pick_t rfl (bTT h30) rfl) ?_
                exact ⟨true, H, ⟨rfl, rfl, rfl, rfl, trivial⟩, trivial⟩
            · have h31 := un4 h26
              replace H := ift h31 H
              refine seq_skip rfl rfl h26 ?_
              refine seq_skip rfl rfl h26 ?_
              refine seq_skip rfl rfl h26 ?_
              refine seq_skip rfl rfl h26 ?_
              refine seq_run0 (stp_pick_t rfl (bTT h31) rfl) ?_
              refine seq_run0 (stp_move (.dat _) rfl) ?_
              refine seq_skip rfl rfl rfl ?_
              refine seq_skip rfl rfl rfl ?_
              refine seq_skip rfl rfl rfl ?_
              refine seq_skip rfl rfl rfl ?_
              refine seq_run0 (stp_pick_t rfl rfl rfl) ?_
              exact ⟨true, H, ⟨rfl, rfl, rfl, rfl, trivial⟩, trivial⟩
          · have h32 := un4 h24
            replace H := ift h32 H
            refine seq_skip rfl rfl h24 ?_
            refine seq_skip rfl rfl h24 ?_
            refine seq_skip rfl rfl h24 ?_
            refine seq_skip rfl rfl h24 ?_
            refine seq_run0 (stp_pick_t rfl (bTT h32) rfl) ?_
            refine seq_run0 (stp_move (.dat _) rfl) ?_
            refine seq_skip rfl rfl rfl ?_
            refine seq_skip rfl rfl rfl ?_
            refine seq_skip rfl rfl rfl ?_
            refine seq_skip rfl rfl rfl ?_
            refine seq_run0 (stp_pick_t rfl rfl rfl) ?_
            refine seq_run0 (stp_move (.dat _) rfl) ?_
            refine seq_skip rfl rfl rfl ?_
            refine seq_skip rfl rfl rfl ?_
            refine seq_skip rfl rfl rfl ?_
            refine seq_skip rfl rfl rfl ?_
            refine seq_run0 (stp_pick_t rfl rfl rfl) ?_
            exact ⟨true, H, ⟨rfl, rfl, rfl, rfl, trivial⟩, trivial⟩
        · rintro v33 H
          replace H : cache_opaque_J3 v33 = some q19 := H
          unfold cache_opaque_J3 at H
          refine awp_cond _ rfl (fun h34 => ?_) (fun h34 => ?_)
          · replace H := ift h34 H
            refine awp_seq ?_
            refine awp_plain hN rfl ?_
            refine seq_run0 (stp_assign (.dat _) rfl) ?_
            refine seq_run0 (stp_assign (.dat _) rfl) ?_
            refine awp_ret ?_
            replace H := retl H hq19
            cases H
            exact ⟨trivial, .inl rfl, .inl rfl, trivial⟩
          · replace H := iff_ h34 H
            refine awp_skip ?_
            refine awp_plain hN rfl ?_
            refine seq_run0 (stp_add rfl rfl (by omega)) ?_
            refine seq_run0 (stp_move (.dat _) rfl) ?_
            exact ⟨_, backl H, ⟨rfl, rfl, rfl, trivial⟩, trivial⟩
theorem kr_strings_Split (s sep : Bs) (r : List Bs) (H : m_strings_Split s sep = some r) : FnG Tryz.prog 29 [.dat (vstr s), .dat (vstr sep)] [] (.row 900 r.length) [(900, .row 9 1 (List.map C_string r))] := by
  obtain ⟨h1, h2, rfl⟩ := split_some H
  have hlen := Lib.splitB_all ⟨sep.toArray⟩ (by simpa [ByteArray.size] using h2) 0 _ ⟨s.toArray⟩ rfl
  have hle := Lib.countB_le ⟨sep.toArray⟩ (by simpa [ByteArray.size] using h2) _ ⟨s.toArray⟩ (Nat.le_refl _)
  refine fnG_strs (args := [vstr s, vstr sep]) (splitL s sep) (by kernel_rfl) (fun M w vs hM hvs => ?_) ?_
  · have hv := Ts_vals (us := [.string ⟨s.toArray⟩, .string ⟨sep.toArray⟩]) hvs
    subst hv
    obtain ⟨m, hm⟩ := maxLen_cell hM
    refine (Tryz.strings_Split ⟨s.toArray⟩ ⟨sep.toArray⟩ m w (by simp [ByteArray.size]; omega) hm (by simpa [ByteArray.size] using h2)).mono ?_
    rintro e w' ⟨rfl, rfl⟩
    have e1 : (splitL s sep).length = Lib.countB ⟨s.toArray⟩ ⟨sep.toArray⟩ + 1 := by unfold splitL; rw [List.length_map, hlen]
    have e2 : ((splitL s sep).map fun s => Value.string ⟨s.toArray⟩) = (Lib.splitB ⟨sep.toArray⟩ 0 (Lib.countB ⟨s.toArray⟩ ⟨sep.toArray⟩) ⟨s.toArray⟩).map Value.string := by
      unfold splitL
      rw [List.map_map]
      exact List.map_congr_left fun b _ => by simp
    rw [e1, e2]
    exact ⟨rfl, rfl⟩
  · unfold splitL maxLen
    rw [List.length_map, hlen]
    have hsz : (ByteArray.mk s.toArray).size = s.length := by simp [ByteArray.size]
    rw [hsz] at hle
    omega
theorem k_strings_Split (s sep : Bs) (r : List Bs) (H : m_strings_Split s sep = some r) : Fn Tryz.prog 29 [vstr s, vstr sep] (resOf [vlst (List.map C_string r)]) := by
  have h := kr_strings_Split s sep r H
  rw [← List.length_map (f := C_string)] at h
  exact fn_of_fnG h
theorem k_strings_trimRightByte (s1 : Bs) (c2 : Int) (r : (Bs)) (H : m_strings_trimRightByte s1 c2 = some r) : Fn Tryz.prog 59 [vstr s1, vval (.int .u8 c2)] (resOf [vstr r]) := by
  refine ⟨by kernel_rfl, pure_of (us := [vstr r]) Tryz.func59 rfl rfl rfl rfl fun X hN => ?_⟩
  unfold m_strings_trimRightByte at H
  refine awp_seq ?_
  refine awp_plain hN rfl ?_
  refine seq_run0 (stp_assign (.dat _) rfl) ?_
  refine awp_joinE (ι := Bs) (fun i => [(0, .dat (vstr i))]) (fun i => []) (fun i => strings_trimRightByte_J1 i = some r) (fun i => rfl) ?_ ?_
  · skip
    refine awp_block ?_
    refine awp_iter (fun (s : Bs) => [(0, .dat (vstr s)), (1, .dat (vval (.int .u8 c2)))]) (fun (s : Bs) => []) s1 H ⟨rfl, rfl, trivial⟩ trivial (fun _ => rfl) ?_
    rintro s3 q4 H hq4
    replace H : strings_trimRightByte_L2 c2 s3 = some q4 := H
    unfold strings_trimRightByte_L2 at H
    refine awp_seq ?_
    refine awp_joinE (ι := Bool) (fun i => [(0, .dat (vstr s3)), (1, .dat (vval (.int .u8 c2))), (16, .dat (vbool i))]) (fun i => []) (fun i => strings_trimRightByte_J3 s3 i = some q4) (fun i => rfl) ?_ ?_
    · skip
      refine awp_plain hN rfl ?_
      refine seq_run0 (stp_move (.dat _) rfl) ?_
      refine seq_run0 (stp_len_str tyU9 rfl) ?_
      refine seq_run0 (stp_gtr rfl rfl) ?_
      refine seq_run0 (stp_move (.dat _) rfl) ?_
      refine seq_split (j := 3) rfl rfl (fun h5 => ?_) (fun h5 => ?_) rfl
      · have h6 := un1 h5
        replace H := ift h6 H
        refine seq_g0 rfl rfl h5 (stp_move (.dat _) rfl) ?_
        refine seq_g0 rfl rfl h5 (stp_move (.dat _) rfl) ?_
        refine seq_g0 rfl rfl h5 (stp_len_str tyU9 rfl) ?_
        refine seq_g0 rfl rfl h5 (stp_wrap _ rfl rfl (.inr (.inl ⟨rfl, rfl⟩))) ?_
        obtain ⟨x7, h8, H⟩ := bnd H
        refine seq_g0 rfl rfl h5 (t_byteI tyU9 rfl rfl h8) ?_
        refine seq_g0 rfl rfl h5 (stp_move (.dat _) rfl) ?_
        refine seq_g0 rfl rfl h5 (stp_eql rfl rfl) ?_
        refine seq_run0 (stp_pick_t rfl (bTT h6) rfl) ?_
        exact ⟨decide ((x7.toNat : Int) = c2), H, ⟨rfl, rfl, rfl, trivial⟩, trivial⟩
      · have h9 := un2 h5
        replace H := iff_ h9 H
        refine seq_skip rfl rfl h5 ?_
        refine seq_skip rfl rfl h5 ?_
        refine seq_skip rfl rfl h5 ?_
        refine seq_skip rfl rfl h5 ?_
        refine seq_skip rfl rfl h5 ?_
        refine seq_skip rfl rfl h5 ?_
        refine seq_skip rfl rfl h5 ?_
        refine seq_run0 (stp_pick_f rfl (bFF h9) rfl) ?_
        exact ⟨false, H, ⟨rfl, rfl, rfl, trivial⟩, trivial⟩
    · rintro v10 H
      replace H : strings_trimRightByte_J3 s3 v10 = some q4 := H
      unfold strings_trimRightByte_J3 at H
      refine awp_cond _ rfl (fun h11 => ?_) (fun h11 => ?_)
      · replace H := ift h11 H
        refine awp_skip ?_
        refine awp_block ?_
        refine awp_plain hN rfl ?_
        refine seq_run0 (stp_move (.dat _) rfl) ?_
        refine seq_run0 (stp_move (.dat _) rfl) ?_
        refine seq_run0 (stp_len_str tyU9 rfl) ?_
        refine seq_run0 (stp_wrap _ rfl rfl (.inr (.inl ⟨rfl, rfl⟩))) ?_
        obtain ⟨l12, h13, H⟩ := bnd H
        refine seq_run0 (t_subS tyU9 rfl rfl rfl h13) ?_
        refine seq_run0 (stp_assign (.dat _) rfl) ?_
        exact ⟨_, backl H, ⟨rfl, rfl, trivial⟩, trivial⟩
      · replace H := iff_ h11 H
        refine awp_exit ?_
        replace H := outl H hq4
        exact ⟨s3, H, ⟨rfl, trivial⟩, trivial⟩
  · rintro s14 H
    replace H : strings_trimRightByte_J1 s14 = some r := H
    unfold strings_trimRightByte_J1 at H
    refine awp_seq ?_
    refine awp_plain hN rfl ?_
    refine seq_run0 (stp_move (.dat _) rfl) ?_
    refine seq_run0 (stp_assign (.dat _) rfl) ?_
    refine awp_ret ?_
    cases H
    exact ⟨trivial, .inl rfl, trivial⟩
theorem k_strings_trimLeftByte (s1 : Bs) (c2 : Int) (r : (Bs)) (H : m_strings_trimLeftByte s1 c2 = some r) : Fn Tryz.prog 58 [vstr s1, vval (.int .u8 c2)] (resOf [vstr r]) := by
  refine ⟨by kernel_rfl, pure_of (us := [vstr r]) Tryz.func58 rfl rfl rfl rfl fun X hN => ?_⟩
  unfold m_strings_trimLeftByte at H
  refine awp_seq ?_
  refine awp_plain hN rfl ?_
  refine seq_run0 (stp_assign (.dat _) rfl) ?_
  refine awp_joinE (ι := Bs) (fun i => [(0, .dat (vstr i))]) (fun i => []) (fun i => strings_trimLeftByte_J1 i = some r) (fun i => rfl) ?_ ?_
  · skip
    refine awp_block ?_
    refine awp_iter (fun (s : Bs) => [(0, .dat (vstr s)), (1, .dat (vval (.int .u8 c2)))]) (fun (s : Bs) => []) s1 H ⟨rfl, rfl, trivial⟩ trivial (fun _ => rfl) ?_
    rintro s3 q4 H hq4
    replace H : strings_trimLeftByte_L2 c2 s3 = some q4 := H
    unfold strings_trimLeftByte_L2 at H
    refine awp_seq ?_
    refine awp_joinE (ι := Bool) (fun i => [(0, .dat (vstr s3)), (1, .dat (vval (.int .u8 c2))), (13, .dat (vbool i))]) (fun i => []) (fun i => strings_trimLeftByte_J3 s3 i = some q4) (fun i => rfl) ?_ ?_
    · skip
      refine awp_plain hN rfl ?_
      refine seq_run0 (stp_move (.dat _) rfl) ?_
      refine seq_run0 (stp_len_str tyU9 rfl) ?_
      refine seq_run0 (stp_gtr rfl rfl) ?_
      refine seq_run0 (stp_move (.dat _) rfl) ?_
      refine seq_split (j := 3) rfl rfl (fun h5 => ?_) (fun h5 => ?_) rfl
      · have h6 := un1 h5
        replace H := ift h6 H
        refine seq_g0 rfl rfl h5 (stp_move (.dat _) rfl) ?_
        obtain ⟨x7, h8, H⟩ := bnd H
        refine seq_g0 rfl rfl h5 (t_byte tyU9 rfl rfl h8) ?_
        refine seq_g0 rfl rfl h5 (stp_move (.dat _) rfl) ?_
        refine seq_g0 rfl rfl h5 (stp_eql rfl rfl) ?_
        refine seq_run0 (stp_pick_t rfl (bTT h6) rfl) ?_
        exact ⟨decide ((x7.toNat : Int) = c2), H, ⟨rfl, rfl, rfl, trivial⟩, trivial⟩
      · have h9 := un2 h5
        replace H := iff_ h9 H
        refine seq_skip rfl rfl h5 ?_
        refine seq_skip rfl rfl h5 ?_
        refine seq_skip rfl rfl h5 ?_
        refine seq_skip rfl rfl h5 ?_
        refine seq_run0 (stp_pick_f rfl (bFF h9) rfl) ?_
        exact ⟨false, H, ⟨rfl, rfl, rfl, trivial⟩, trivial⟩
    · rintro v10 H
      replace H : strings_trimLeftByte_J3 s3 v10 = some q4 := H
      unfold strings_trimLeftByte_J3 at H
      refine awp_cond _ rfl (fun h11 => ?_) (fun h11 => ?_)
      · replace H := ift h11 H
        refine awp_skip ?_
        refine awp_block ?_
        refine awp_plain hN rfl ?_
        refine seq_run0 (stp_move (.dat _) rfl) ?_
        obtain ⟨l12, h13, H⟩ := bnd H
        refine seq_run0 (t_subS tyU9 rfl rfl rfl h13) ?_
        refine seq_run0 (stp_assign (.dat _) rfl) ?_
        exact ⟨_, backl H, ⟨rfl, rfl, trivial⟩, trivial⟩
      · replace H := iff_ h11 H
        refine awp_exit ?_
        replace H := outl H hq4
        exact ⟨s3, H, ⟨rfl, trivial⟩, trivial⟩
  · rintro s14 H
    replace H : strings_trimLeftByte_J1 s14 = some r := H
    unfold strings_trimLeftByte_J1 at H
    refine awp_seq ?_
    refine awp_plain hN rfl ?_
    refine seq_run0 (stp_move (.dat _) rfl) ?_
    refine seq_run0 (stp_assign (.dat _) rfl) ?_
    refine awp_ret ?_
    cases H
    exact ⟨trivial, .inl rfl, trivial⟩
theorem k_strings_Trim (s1 : Bs) (cutset2 : Bs) (r : (Bs)) (H : m_strings_Trim s1 cutset2 = some r) : Fn Tryz.prog 30 [vstr s1, vstr cutset2] (resOf [vstr r]) := by
  refine ⟨by kernel_rfl, pure_of (us := [vstr r]) Tryz.func30 rfl rfl rfl rfl fun X hN => ?_⟩
  unfold m_strings_Trim at H
  refine awp_seq ?_
  refine awp_plain hN rfl ?_
  refine seq_run0 (stp_assign (.dat _) rfl) ?_
  refine awp_seq ?_
  refine awp_seq ?_
  refine awp_plain hN rfl ?_
  refine seq_run0 (stp_move (.dat _) rfl) ?_
  refine seq_run0 (stp_seql rfl rfl) ?_
  refine seq_run0 (stp_move (.dat _) rfl) ?_
  refine seq_aF rfl rfl (fun hc => stp_move (.dat _) rfl) ?_
  refine seq_aF rfl rfl (fun hc => stp_seql (cnd (c := (!(decide (s1 = [])))) hc) rfl) ?_
  refine seq_run0 (stp_pick_or rfl rfl (fun hb => (cnd (c := (!(decide (s1 = [])))) (notI hb)))) ?_
  refine awp_cond _ rfl (fun h3 => ?_) (fun h3 => ?_)
  · replace H := ift h3 H
    refine awp_seq ?_
    refine awp_plain hN rfl ?_
    refine seq_run0 (stp_move (.dat _) rfl) ?_
    refine seq_run0 (stp_assign (.dat _) rfl) ?_
    refine awp_ret ?_
    cases H
    exact ⟨trivial, .inl rfl, trivial⟩
  · replace H := iff_ h3 H
    refine awp_skip ?_
    refine awp_seq ?_
    refine awp_joinE (ι := Bool) (fun i => [(0, .dat (vstr s1)), (1, .dat (vstr cutset2)), (21, .dat (vbool i))]) (fun i => []) (fun i => strings_Trim_J1 s1 cutset2 i = some r) (fun i => rfl) ?_ ?_
    · skip
      refine awp_plain hN rfl ?_
      refine seq_run0 (stp_move (.dat _) rfl) ?_
      refine seq_run0 (stp_len_str tyU9 rfl) ?_
      refine seq_run0 (stp_eql rfl rfl) ?_
      refine seq_run0 (stp_move (.dat _) rfl) ?_
      refine seq_split (j := 3) rfl rfl (fun h4 => ?_) (fun h4 => ?_) rfl
      · have h5 := un1 h4
        replace H := ift h5 H
        refine seq_g0 rfl rfl h4 (stp_move (.dat _) rfl) ?_
        obtain ⟨x6, h7, H⟩ := bnd H
        refine seq_g0 rfl rfl h4 (t_byte tyU9 rfl rfl h7) ?_
        refine seq_g0 rfl rfl h4 (stp_lss rfl rfl) ?_
        refine seq_run0 (stp_pick_t rfl (bTT h5) rfl) ?_
        exact ⟨decide ((x6.toNat : Int) < 128), H, ⟨rfl, rfl, rfl, trivial⟩, trivial⟩
      · have h8 := un2 h4
        replace H := iff_ h8 H
        refine seq_skip rfl rfl h4 ?_
        refine seq_skip rfl rfl h4 ?_
        refine seq_skip rfl rfl h4 ?_
        refine seq_run0 (stp_pick_f rfl (bFF h8) rfl) ?_
        exact ⟨false, H, ⟨rfl, rfl, rfl, trivial⟩, trivial⟩
    · rintro v9 H
      replace H : strings_Trim_J1 s1 cutset2 v9 = some r := H
      unfold strings_Trim_J1 at H
      refine awp_cond _ rfl (fun h10 => ?_) (fun h10 => ?_)
      · replace H := ift h10 H
        refine awp_seq ?_
        refine awp_draw mixed hN rfl rfl ?_
        refine seq_run0 (stp_move (.dat _) rfl) ?_
        refine seq_run0 (stp_move (.dat _) rfl) ?_
        obtain ⟨x11, h12, H⟩ := bnd H
        refine seq_run0 (t_byte tyU9 rfl rfl h12) ?_
        obtain ⟨r13, h14, H⟩ := bnd H
        refine seq_run0 (stp_call (k_strings_trimRightByte s1 (x11.toNat : Int) r13 h14) ⟨.inl rfl, .inl rfl, trivial⟩) ?_
        refine seq_run0 (stp_move (.dat _) rfl) ?_
        refine seq_run0 (t_byte tyU9 rfl rfl h12) ?_
        obtain ⟨r15, h16, H⟩ := bnd H
        refine seq_run0 (stp_call (k_strings_trimLeftByte r13 (x11.toNat : Int) r15 h16) ⟨.inl rfl, .inl rfl, trivial⟩) ?_
        refine seq_run0 (stp_assign (.dat _) rfl) ?_
        refine ⟨rfl, ?_⟩
        refine awp_ret ?_
        cases H
        exact ⟨trivial, .inl rfl, trivial⟩
      · replace H := iff_ h10 H
        cases H
theorem k_cache_Matches (header1 : Bs) (tag2 : Bs) (r : (Bool × Int)) (H : m_cache_Matches header1 tag2 = some r) : Fn Tryz.prog 8 [vstr header1, vstr tag2] (resOf [vbool r.1, vint r.2]) := by
  refine ⟨by kernel_rfl, pure_of (us := [vbool r.1, vint r.2]) Tryz.func8 rfl rfl rfl rfl fun X hN => ?_⟩
  unfold m_cache_Matches at H
  refine awp_seq ?_
  refine awp_plain hN rfl ?_
  refine seq_run0 (stp_assign (.dat _) rfl) ?_
  refine seq_run0 (stp_assign (.dat _) rfl) ?_
  refine awp_seq ?_
  refine awp_plain hN rfl ?_
  refine seq_run0 (stp_move (.dat _) rfl) ?_
  obtain ⟨r3, h4, H⟩ := bnd H
  refine seq_run0 (stp_call (k_cache_opaque tag2 r3 h4) ⟨.inl rfl, trivial⟩) ?_
  refine seq_run0 (stp_move (.dat _) rfl) ?_
  refine seq_run0 (stp_ext rfl rfl) ?_
  refine seq_run0 (stp_ext rfl rfl) ?_
  refine seq_run0 (stp_assign (.dat _) rfl) ?_
  refine seq_run0 (stp_assign (.dat _) rfl) ?_
  refine awp_seq ?_
  refine awp_seq ?_
  refine awp_plain hN rfl ?_
  refine seq_run0 (stp_move (.dat _) rfl) ?_
  refine seq_run0 (stp_not rfl) ?_
  refine awp_cond _ rfl (fun h5 => ?_) (fun h5 => ?_)
  · replace H := ift h5 H
    refine awp_seq ?_
    refine awp_plain hN rfl ?_
    refine seq_run0 (stp_assign (.dat _) rfl) ?_
    refine seq_run0 (stp_assign (.dat _) rfl) ?_
    refine awp_ret ?_
    cases H
    exact ⟨trivial, .inl rfl, .inl rfl, trivial⟩
  · replace H := iff_ h5 H
    refine awp_skip ?_
    refine awp_seq ?_
    refine awp_seq ?_
    refine awp_plain hN rfl ?_
    refine seq_run0 (stp_move (.dat _) rfl) ?_
    refine seq_run0 (stp_seql rfl rfl) ?_
    refine awp_cond _ rfl (fun h6 => ?_) (fun h6 => ?_)
    · replace H := ift h6 H
      refine awp_seq ?_
      refine awp_plain hN rfl ?_
      refine seq_run0 (stp_assign (.dat _) rfl) ?_
      refine seq_run0 (stp_assign (.dat _) rfl) ?_
      refine awp_ret ?_
      cases H
      exact ⟨trivial, .inl rfl, .inl rfl, trivial⟩
    · replace H := iff_ h6 H
      refine awp_skip ?_
      refine awp_seq ?_
      refine awp_plain hN rfl ?_
      refine seq_run0 (stp_assign (.dat _) rfl) ?_
      refine awp_seq ?_
      refine awp_seq ?_
      refine awp_plain hN rfl ?_
      refine seq_run0 (stp_move (.dat _) rfl) ?_
      obtain ⟨r7, h8, H⟩ := bnd H
      refine seq_run0 (stp_call (k_strings_Split header1 [44] r7 h8) ⟨.inl rfl, .inl rfl, trivial⟩) ?_
      refine seq_run0 (t_len tyU48 rfl) ?_
      refine seq_run0 (stp_move (.dat _) rfl) ?_
      refine awp_block ?_
      obtain ⟨h12, H⟩ := gif H
      refine awp_forL (fun (k10 : Nat) (s : Bool) => [(6, .dat (vstr r3.1)), (8, .dat (vbool s)), (23, .dat (vlst (List.map C_string r7))), (24, .dat (vint (r7.length : Int))), (25, .dat (vint (k10 : Int)))]) (fun (k10 : Nat) (s : Bool) => []) false H ⟨rfl, rfl, rfl, rfl, rfl, trivial⟩ trivial (fun _ _ => rfl) ?_ ?_
      · rintro found9 H
        replace H : cache_Matches_E1 found9 = some r := H
        unfold cache_Matches_E1 at H
        refine awp_seq ?_
        refine awp_plain hN rfl ?_
        refine seq_run0 (stp_lss rfl rfl) ?_
        refine awp_seq ?_
        refine awp_cond _ rfl (fun h => (lt_t h).elim) (fun h => ?_)
        refine awp_exit ?_
        refine awp_seq ?_
        refine awp_plain hN rfl ?_
        refine seq_run0 (stp_move (.dat _) rfl) ?_
        refine seq_run0 (stp_assign (.dat _) rfl) ?_
        refine seq_run0 (stp_assign (.dat _) rfl) ?_
        refine awp_ret ?_
        cases H
        exact ⟨trivial, .inl rfl, .inl rfl, trivial⟩
      · rintro k10 x13 found9 q11 h14 h15 H hq11
        replace H : cache_Matches_L1 r3 k10 x13 found9 = some q11 := H
        unfold cache_Matches_L1 at H
        refine awp_seq ?_
        refine awp_plain hN rfl ?_
        refine seq_run0 (stp_lss rfl rfl) ?_
        refine awp_seq ?_
        refine awp_cond _ rfl (fun h => ?_) (fun h => (lt_f h14 h).elim)
        refine awp_skip ?_
        refine awp_seq ?_
        refine awp_block ?_
        refine awp_seq ?_
        refine awp_plain hN rfl ?_
        refine seq_run0 (t_idx tyE48 (fun _ => rfl) rfl rfl h15) ?_
        refine seq_run0 (stp_loadE1 tyS9 rfl (map_at h15) rfl) ?_
        refine seq_run0 (stp_assign (.dat _) rfl) ?_
        refine awp_seq ?_
        refine awp_plain hN rfl ?_
        refine seq_run0 (stp_move (.dat _) rfl) ?_
        obtain ⟨r16, h17, H⟩ := bnd H
        refine seq_run0 (stp_call (k_strings_Trim x13 [32] r16 h17) ⟨.inl rfl, .inl rfl, trivial⟩) ?_
        obtain ⟨r18, h19, H⟩ := bnd H
        refine seq_run0 (stp_call (k_cache_opaque r16 r18 h19) ⟨.inl rfl, trivial⟩) ?_
        refine seq_run0 (stp_move (.dat _) rfl) ?_
        refine seq_run0 (stp_ext rfl rfl) ?_
        refine seq_run0 (stp_ext rfl rfl) ?_
        refine seq_run0 (stp_assign (.dat _) rfl) ?_
        refine seq_run0 (stp_assign (.dat _) rfl) ?_
        refine awp_seq ?_
        refine awp_seq ?_
        refine awp_plain hN rfl ?_
        refine seq_run0 (stp_move (.dat _) rfl) ?_
        refine seq_run0 (stp_not rfl) ?_
        refine awp_cond _ rfl (fun h20 => ?_) (fun h20 => ?_)
        · replace H := ift h20 H
          refine awp_seq ?_
          refine awp_plain hN rfl ?_
          refine seq_run0 (stp_assign (.dat _) rfl) ?_
          refine seq_run0 (stp_assign (.dat _) rfl) ?_
          refine awp_ret ?_
          replace H := retl H hq11
          cases H
          exact ⟨trivial, .inl rfl, .inl rfl, trivial⟩
        · replace H := iff_ h20 H
          refine awp_skip ?_
          refine awp_plain hN rfl ?_
          refine seq_run0 (stp_move (.dat _) rfl) ?_
          refine seq_run0 (stp_move (.dat _) rfl) ?_
          refine seq_aF rfl rfl (fun hc => stp_move (.dat _) rfl) ?_
          refine seq_aF rfl rfl (fun hc => stp_move (.dat _) rfl) ?_
          refine seq_aF rfl rfl (fun hc => stp_seql (cnd (c := (!found9)) hc) (cnd (c := (!found9)) hc)) ?_
          refine seq_run0 (stp_pick_or rfl rfl (fun hb => (cnd (c := (!found9)) (notI hb)))) ?_
          refine seq_run0 (stp_assign (.dat _) rfl) ?_
          refine awp_plain hN rfl ?_
          refine seq_run0 (stp_add rfl rfl (by omega)) ?_
          refine seq_run0 (stp_move (.dat _) rfl) ?_
          exact ⟨_, backl H, ⟨rfl, rfl, rfl, rfl, rfl, trivial⟩, trivial⟩
theorem k_gateref2_visible (s1 : Bs) (low2 : Int) (r : (Bool)) (H : m_gateref2_visible s1 low2 = some r) : Fn Tryz.prog 65 [vstr s1, vval (.int .u8 low2)] (resOf [vbool r]) := by
  refine ⟨by kernel_rfl, pure_of (us := [vbool r]) Tryz.func65 rfl rfl rfl rfl fun X hN => ?_⟩
  unfold m_gateref2_visible at H
  refine awp_seq ?_
  refine awp_plain hN rfl ?_
  refine seq_run0 (stp_assign (.dat _) rfl) ?_
  refine awp_seq ?_
  refine awp_seq ?_
  refine awp_plain hN rfl ?_
  refine seq_run0 (stp_move (.dat _) rfl) ?_
  refine seq_run0 (stp_len_str tyU9 rfl) ?_
  refine seq_run0 (stp_move (.dat _) rfl) ?_
  refine awp_block ?_
  obtain ⟨h5, H⟩ := gif H
  refine awp_forL (fun (k3 : Nat) (s : Unit) => [(0, .dat (vstr s1)), (1, .dat (vval (.int .u8 low2))), (7, .dat (vint (s1.length : Int))), (8, .dat (vint (k3 : Int)))]) (fun (k3 : Nat) (s : Unit) => []) () H ⟨rfl, rfl, rfl, rfl, trivial⟩ trivial (fun _ _ => rfl) ?_ ?_
  · rintro ⟨⟩ H
    replace H : gateref2_visible_E1 = some r := H
    unfold gateref2_visible_E1 at H
    refine awp_seq ?_
    refine awp_plain hN rfl ?_
    refine seq_run0 (stp_lss rfl rfl) ?_
    refine awp_seq ?_
    refine awp_cond _ rfl (fun h => (lt_t h).elim) (fun h => ?_)
    refine awp_exit ?_
    refine awp_seq ?_
    refine awp_plain hN rfl ?_
    refine seq_run0 (stp_assign (.dat _) rfl) ?_
    refine awp_ret ?_
    cases H
    exact ⟨trivial, .inl rfl, trivial⟩
  · rintro k3 x6 ⟨⟩ q4 h7 h8 H hq4
    replace H : gateref2_visible_L1 low2 k3 x6 = some q4 := H
    unfold gateref2_visible_L1 at H
    refine awp_seq ?_
    refine awp_plain hN rfl ?_
    refine seq_run0 (stp_lss rfl rfl) ?_
    refine awp_seq ?_
    refine awp_cond _ rfl (fun h => ?_) (fun h => (lt_f h7 h).elim)
    refine awp_skip ?_
    refine awp_seq ?_
    refine awp_block ?_
    refine awp_seq ?_
    refine awp_plain hN rfl ?_
    refine seq_run0 (stp_move (.dat _) rfl) ?_
    refine seq_run0 (stp_assign (.dat _) rfl) ?_
    refine awp_joinE (ι := Bool) (fun i => [(0, .dat (vstr s1)), (1, .dat (vval (.int .u8 low2))), (7, .dat (vint (s1.length : Int))), (8, .dat (vint (k3 : Int))), (21, .dat (vbool i))]) (fun i => []) (fun i => gateref2_visible_J2 i = some q4) (fun i => rfl) ?_ ?_
    · skip
      refine awp_plain hN rfl ?_
      refine seq_run0 (stp_move (.dat _) rfl) ?_
      refine seq_run0 (stp_move (.dat _) rfl) ?_
      refine seq_run0 (t_byte tyU9 rfl rfl h8) ?_
      refine seq_run0 (stp_move (.dat _) rfl) ?_
      refine seq_run0 (stp_lss rfl rfl) ?_
      refine seq_run0 (stp_move (.dat _) rfl) ?_
      refine seq_split (j := 5) rfl rfl (fun h9 => ?_) (fun h9 => ?_) rfl
      · have h10 := un3 h9
        replace H := iff_ h10 H
        refine seq_g0 rfl rfl h9 (stp_move (.dat _) rfl) ?_
        refine seq_g0 rfl rfl h9 (stp_move (.dat _) rfl) ?_
        refine seq_g0 rfl rfl h9 (t_byte tyU9 rfl rfl h8) ?_
        refine seq_g0 rfl rfl h9 (stp_gtr rfl rfl) ?_
        refine seq_run0 (stp_pick_f rfl (bFF h10) rfl) ?_
        exact ⟨decide (126 < (x6.toNat : Int)), H, ⟨rfl, rfl, rfl, rfl, rfl, trivial⟩, trivial⟩
      · have h11 := un4 h9
        replace H := ift h11 H
        refine seq_skip rfl rfl h9 ?_
        refine seq_skip rfl rfl h9 ?_
        refine seq_skip rfl rfl h9 ?_
        refine seq_skip rfl rfl h9 ?_
        refine seq_run0 (stp_pick_t rfl (bTT h11) rfl) ?_
        exact ⟨true, H, ⟨rfl, rfl, rfl, rfl, rfl, trivial⟩, trivial⟩
    · rintro v12 H
      replace H : gateref2_visible_J2 v12 = some q4 := H
      unfold gateref2_visible_J2 at H
      refine awp_cond _ rfl (fun h13 => ?_) (fun h13 => ?_)
      · replace H := ift h13 H
        refine awp_seq ?_
        refine awp_plain hN rfl ?_
        refine seq_run0 (stp_assign (.dat _) rfl) ?_
        refine awp_ret ?_
        replace H := retl H hq4
        cases H
        exact ⟨trivial, .inl rfl, trivial⟩
      · replace H := iff_ h13 H
        refine awp_skip ?_
        refine awp_plain hN rfl ?_
        refine seq_run0 (stp_add rfl rfl (by omega)) ?_
        refine seq_run0 (stp_move (.dat _) rfl) ?_
        exact ⟨_, backl H, ⟨rfl, rfl, rfl, rfl, trivial⟩, trivial⟩
theorem k_strings_ContainsAny (s p : Bs) (r : Bool) (H : m_strings_ContainsAny s p = some r) : Fn Tryz.prog 66 [vstr s, vstr p] (resOf [vbool r]) := by
  unfold m_strings_ContainsAny at H
  obtain ⟨⟨⟨h1, h2⟩, h3, h4⟩, h5⟩ := gif H
  cases h5
  refine fn_of_callsG (by kernel_rfl) fun M w vs hM h => ?_
  have hv := Ts_vals (us := [.string ⟨s.toArray⟩, .string ⟨p.toArray⟩]) h
  subst hv
  refine (Tryz.strings_ContainsAny_laid ⟨s.toArray⟩ ⟨p.toArray⟩ w (by simp [ByteArray.size]; omega) (by simp [ByteArray.size]; omega) (fun j b hb => ascB_at h3 j b (by simpa using hb)) (fun j b hb => ascB_at h4 j b (by simpa using hb))).mono ?_
  rintro e w' ⟨rfl, hb⟩
  exact ⟨_, rfl, rfl, Kp.of_below hb⟩

theorem k_gateref2_tagOf (s1 : Bs) (r : (Bs × Bool)) (H : m_gateref2_tagOf s1 = some r) : Fn Tryz.prog 31 [vstr s1] (resOf [vstr r.1, vbool r.2]) := by
  refine ⟨by kernel_rfl, pure_of (us := [vstr r.1, vbool r.2]) Tryz.func31 rfl rfl rfl rfl fun X hN => ?_⟩
  unfold m_gateref2_tagOf at H
  refine awp_seq ?_
  refine awp_plain hN rfl ?_
  refine seq_run0 (stp_assign (.dat _) rfl) ?_
  refine seq_run0 (stp_assign (.dat _) rfl) ?_
  refine awp_seq ?_
  refine awp_plain hN rfl ?_
  refine seq_run0 (stp_move (.dat _) rfl) ?_
  obtain ⟨r2, h3, H⟩ := bnd H
  refine seq_run0 (stp_call (k_strings_TrimPrefix s1 [87, 47] r2 h3) ⟨.inl rfl, .inl rfl, trivial⟩) ?_
  refine seq_run0 (stp_assign (.dat _) rfl) ?_
  refine awp_joinE (ι := Bool) (fun i => [(2, .dat (vstr r2)), (3, .dat (vbool i))]) (fun i => []) (fun i => gateref2_tagOf_J1 r2 i = some r) (fun i => rfl) ?_ ?_
  · skip
    refine awp_plain hN rfl ?_
    refine seq_run0 (stp_move (.dat _) rfl) ?_
    refine seq_run0 (stp_move (.dat _) rfl) ?_
    refine seq_run0 (stp_len_str tyU9 rfl) ?_
    refine seq_run0 (stp_geq rfl rfl) ?_
    refine seq_run0 (stp_move (.dat _) rfl) ?_
    refine seq_split (j := 4) rfl rfl (fun h4 => ?_) (fun h4 => ?_) rfl
    · have h5 := un1 h4
      replace H := ift h5 H
      refine seq_g0 rfl rfl h4 (stp_move (.dat _) rfl) ?_
      obtain ⟨x6, h7, H⟩ := bnd H
      refine seq_g0 rfl rfl h4 (t_byte tyU9 rfl rfl h7) ?_
      refine seq_g0 rfl rfl h4 (stp_eql rfl rfl) ?_
      refine seq_run0 (stp_pick_t rfl (bTT h5) rfl) ?_
      refine seq_run0 (stp_move (.dat _) rfl) ?_
      refine seq_split (j := 9) rfl rfl (fun h8 => ?_) (fun h8 => ?_) rfl
      · have h9 := un1 h8
        replace H := ift h9 H
        refine seq_g0 rfl rfl h8 (stp_move (.dat _) rfl) ?_
        refine seq_g0 rfl rfl h8 (stp_move (.dat _) rfl) ?_
        refine seq_g0 rfl rfl h8 (stp_len_str tyU9 rfl) ?_
        refine seq_g0 rfl rfl h8 (stp_wrap _ rfl rfl (.inr (.inl ⟨rfl, rfl⟩))) ?_
        obtain ⟨x10, h11, H⟩ := bnd H
        refine seq_g0 rfl rfl h8 (t_byteI tyU9 rfl rfl h11) ?_
        refine seq_g0 rfl rfl h8 (stp_eql rfl rfl) ?_
        refine seq_run0 (stp_pick_t rfl (bTT h9) rfl) ?_
        refine seq_run0 (stp_move (.dat _) rfl) ?_
        refine seq_split (j := 17) rfl rfl (fun h12 => ?_) (fun h12 => ?_) rfl
        · have h13 := un1 h12
          replace H := ift h13 H
          refine seq_g0 rfl rfl h12 (stp_move (.dat _) rfl) ?_
          obtain ⟨r14, h15, H⟩ := bnd H
          refine seq_g0 rfl rfl h12 (stp_call (k_gateref2_visible r2 33 r14 h15) ⟨.inl rfl, .inl rfl, trivial⟩) ?_
          refine seq_run0 (stp_pick_t rfl (bTT h13) rfl) ?_
          refine seq_run0 (stp_move (.dat _) rfl) ?_
          refine seq_split (j := 21) rfl rfl (fun h16 => ?_) (fun h16 => ?_) rfl
          · have h17 := un1 h16
            replace H := ift h17 H
            refine seq_g0 rfl rfl h16 (stp_move (.dat _) rfl) ?_
            refine seq_g0 rfl rfl h16 (stp_move (.dat _) rfl) ?_
            refine seq_g0 rfl rfl h16 (stp_len_str tyU9 rfl) ?_
            refine seq_g0 rfl rfl h16 (stp_wrap _ rfl rfl (.inr (.inl ⟨rfl, rfl⟩))) ?_
            obtain ⟨l18, h19, H⟩ := bnd H
            refine seq_g0 rfl rfl h16 (t_subS tyU9 rfl rfl rfl h19) ?_
            obtain ⟨r20, h21, H⟩ := bnd H
            refine seq_g0 rfl rfl h16 (stp_call (k_strings_ContainsAny l18 [34, 44] r20 h21) ⟨.inl rfl, .inl rfl, trivial⟩) ?_
            refine seq_g0 rfl rfl h16 (stp_not rfl) ?_
            refine seq_run0 (stp_pick_t rfl (bTT h17) rfl) ?_
            refine seq_run0 (stp_assign (.dat _) rfl) ?_
            refine seq_run0 (stp_assign (.dat _) rfl) ?_
            exact ⟨!r20, H, ⟨rfl, rfl, trivial⟩, trivial⟩
          · have h22 := un2 h16
            replace H := iff_ h22 H
            refine seq_skip rfl rfl h16 ?_
            refine seq_skip rfl rfl h16 ?_
            refine seq_skip rfl rfl h16 ?_
            refine seq_skip rfl rfl h16 ?_
            refine seq_skip rfl rfl h16 ?_
            refine seq_skip rfl rfl h16 ?_
            refine seq_skip rfl rfl h16 ?_
            refine seq_run0 (stp_pick_f rfl (bFF h22) rfl) ?_
            refine seq_run0 (stp_assign (.dat _) rfl) ?_
            refine seq_run0 (stp_assign (.dat _) rfl) ?_
            exact ⟨false, H, ⟨rfl, rfl, trivial⟩, trivial⟩
        · have h23 := un2 h12
          replace H := iff_ h23 H
          refine seq_skip rfl rfl h12 ?_
          refine seq_skip rfl rfl h12 ?_
          refine seq_run0 (stp_pick_f rfl (bFF h23) rfl) ?_
          refine seq_run0 (stp_move (.dat _) rfl) ?_
          refine seq_skip rfl rfl rfl ?_
          refine seq_skip rfl rfl rfl ?_
          refine seq_skip rfl rfl rfl ?_
          refine seq_skip rfl rfl rfl ?_
          refine seq_skip rfl rfl rfl ?_
          refine seq_skip rfl rfl rfl ?_
          refine seq_skip rfl rfl rfl ?_
          refine seq_run0 (stp_pick_f rfl rfl rfl) ?_
          refine seq_run0 (stp_assign (.dat _) rfl) ?_
          refine seq_run0 (stp_assign (.dat _) rfl) ?_
          exact ⟨false, H, ⟨rfl, rfl, trivial⟩, trivial⟩
      · have h24 := un2 h8
        replace H := iff_ h24 H
        refine seq_skip rfl rfl h8 ?_
        refine seq_skip rfl rfl h8 ?_
        refine seq_skip rfl rfl h8 ?_
        refine seq_skip rfl rfl h8 ?_
        refine seq_skip rfl rfl h8 ?_
        refine seq_skip rfl rfl h8 ?_
        refine seq_run0 (stp_pick_f rfl (bFF h24) rfl) ?_
        refine seq_run0 (stp_move (.dat _) rfl) ?_
        refine seq_skip rfl rfl rfl ?_
        refine seq_skip rfl rfl rfl ?_
        refine seq_run0 (stp_pick_f rfl rfl rfl) ?_
        refine seq_run0 (stp_move (.dat _) rfl) ?_
        refine seq_skip rfl rfl rfl ?_
        refine seq_skip rfl rfl rfl ?_
        refine seq_skip rfl rfl rfl ?_
        refine seq_skip rfl rfl rfl ?_
        refine seq_skip rfl rfl rfl ?_
        refine seq_skip rfl rfl rfl ?_
        refine seq_skip rfl rfl rfl ?_
        refine seq_run0 (stp_pick_f rfl rfl rfl) ?_
        refine seq_run0 (stp_assign (.dat _) rfl) ?_
        refine seq_run0 (stp_assign (.dat _) rfl) ?_
        exact ⟨false, H, ⟨rfl, rfl, trivial⟩, trivial⟩
    · have h25 := un2 h4
      replace H := iff_ h25 H
      refine seq_skip rfl rfl h4 ?_
      refine seq_skip rfl rfl h4 ?_
      refine seq_skip rfl rfl h4 ?_
      refine seq_run0 (stp_pick_f rfl (bFF h25) rfl) ?_
      refine seq_run0 (stp_move (.dat _) rfl) ?_
      refine seq_skip rfl rfl rfl ?_
      refine seq_skip rfl rfl rfl ?_
      refine seq_skip rfl rfl rfl ?_
      refine seq_skip rfl rfl rfl ?_
      refine seq_skip rfl rfl rfl ?_
      refine seq_skip rfl rfl rfl ?_
      refine seq_run0 (stp_pick_f rfl rfl rfl) ?_
      refine seq_run0 (stp_move (.dat _) rfl) ?_
      refine seq_skip rfl rfl rfl ?_
      refine seq_skip rfl rfl rfl ?_
      refine seq_run0 (stp_pick_f rfl rfl rfl) ?_
      refine seq_run0 (stp_move (.dat _) rfl) ?_
      refine seq_skip rfl rfl rfl ?_
      refine seq_skip rfl rfl rfl ?_
      refine seq_skip rfl rfl rfl ?_
      refine seq_skip rfl rfl rfl ?_
      refine seq_skip rfl rfl rfl ?_
      refine seq_skip rfl rfl rfl ?_
      refine seq_skip rfl rfl rfl ?_
      refine seq_run0 (stp_pick_f rfl rfl rfl) ?_
      refine seq_run0 (stp_assign (.dat _) rfl) ?_
      refine seq_run0 (stp_assign (.dat _) rfl) ?_
      exact ⟨false, H, ⟨rfl, rfl, trivial⟩, trivial⟩
  · rintro v26 H
    replace H : gateref2_tagOf_J1 r2 v26 = some r := H
    unfold gateref2_tagOf_J1 at H
    refine awp_ret ?_
    cases H
    exact ⟨trivial, .inl rfl, .inl rfl, trivial⟩
theorem k_slices_Index_L_string_string_ (s1 : (List Bs)) (v2 : Bs) (r : (Int)) (H : m_slices_Index_L_string_string_ s1 v2 = some r) : Fn Tryz.prog 67 [vlst (List.map C_string s1), vstr v2] (resOf [vint r]) := by
  refine ⟨by kernel_rfl, pure_of (us := [vint r]) Tryz.func67 rfl rfl rfl rfl fun X hN => ?_⟩
  unfold m_slices_Index_L_string_string_ at H
  refine awp_seq ?_
  refine awp_plain hN rfl ?_
  refine seq_run0 (stp_assign (.dat _) rfl) ?_
  refine awp_seq ?_
  refine awp_seq ?_
  refine awp_plain hN rfl ?_
  refine seq_run0 (stp_move (.dat _) rfl) ?_
  refine seq_run0 (t_len tyU48 rfl) ?_
  refine seq_run0 (stp_move (.dat _) rfl) ?_
  refine awp_block ?_
  obtain ⟨h5, H⟩ := gif H
  refine awp_forL (fun (k3 : Nat) (s : Unit) => [(0, .dat (vlst (List.map C_string s1))), (1, .dat (vstr v2)), (7, .dat (vint (s1.length : Int))), (8, .dat (vint (k3 : Int)))]) (fun (k3 : Nat) (s : Unit) => []) () H ⟨rfl, rfl, rfl, rfl, trivial⟩ trivial (fun _ _ => rfl) ?_ ?_
  · rintro ⟨⟩ H
    replace H : slices_Index_L_string_string__E1 = some r := H
    unfold slices_Index_L_string_string__E1 at H
    refine awp_seq ?_
    refine awp_plain hN rfl ?_
    refine seq_run0 (stp_lss rfl rfl) ?_
    refine awp_seq ?_
    refine awp_cond _ rfl (fun h => (lt_t h).elim) (fun h => ?_)
    refine awp_exit ?_
    refine awp_seq ?_
    refine awp_plain hN rfl ?_
    refine seq_run0 (stp_assign (.dat _) rfl) ?_
    refine awp_ret ?_
    cases H
    exact ⟨trivial, .inl rfl, trivial⟩
  · rintro k3 x6 ⟨⟩ q4 h7 h8 H hq4
    replace H : slices_Index_L_string_string__L1 v2 k3 x6 = some q4 := H
    unfold slices_Index_L_string_string__L1 at H
    refine awp_seq ?_
    refine awp_plain hN rfl ?_
    refine seq_run0 (stp_lss rfl rfl) ?_
    refine awp_seq ?_
    refine awp_cond _ rfl (fun h => ?_) (fun h => (lt_f h7 h).elim)
    refine awp_skip ?_
    refine awp_seq ?_
    refine awp_block ?_
    refine awp_seq ?_
    refine awp_plain hN rfl ?_
    refine seq_run0 (stp_move (.dat _) rfl) ?_
    refine seq_run0 (stp_assign (.dat _) rfl) ?_
    refine awp_seq ?_
    refine awp_plain hN rfl ?_
    refine seq_run0 (stp_move (.dat _) rfl) ?_
    refine seq_run0 (stp_move (.dat _) rfl) ?_
    refine seq_run0 (stp_move (.dat _) rfl) ?_
    refine seq_run0 (t_idx tyE48 (fun _ => rfl) rfl rfl h8) ?_
    refine seq_run0 (stp_loadE1 tyS9 rfl (map_at h8) rfl) ?_
    refine seq_run0 (stp_seql rfl rfl) ?_
    refine awp_cond _ rfl (fun h9 => ?_) (fun h9 => ?_)
    · replace H := ift h9 H
      refine awp_seq ?_
      refine awp_plain hN rfl ?_
      refine seq_run0 (stp_move (.dat _) rfl) ?_
      refine seq_run0 (stp_assign (.dat _) rfl) ?_
      refine awp_ret ?_
      replace H := retl H hq4
      cases H
      exact ⟨trivial, .inl rfl, trivial⟩
    · replace H := iff_ h9 H
      refine awp_skip ?_
      refine awp_plain hN rfl ?_
      refine seq_run0 (stp_add rfl rfl (by omega)) ?_
      refine seq_run0 (stp_move (.dat _) rfl) ?_
      exact ⟨_, backl H, ⟨rfl, rfl, rfl, rfl, trivial⟩, trivial⟩
theorem k_slices_Contains_L_string_string_ (s1 : (List Bs)) (v2 : Bs) (r : (Bool)) (H : m_slices_Contains_L_string_string_ s1 v2 = some r) : Fn Tryz.prog 32 [vlst (List.map C_string s1), vstr v2] (resOf [vbool r]) := by
  refine ⟨by kernel_rfl, pure_of (us := [vbool r]) Tryz.func32 rfl rfl rfl rfl fun X hN => ?_⟩
  unfold m_slices_Contains_L_string_string_ at H
  refine awp_seq ?_
  refine awp_plain hN rfl ?_
  refine seq_run0 (stp_assign (.dat _) rfl) ?_
  refine awp_seq ?_
  refine awp_plain hN rfl ?_
  refine seq_run0 (stp_move (.dat _) rfl) ?_
  refine seq_run0 (stp_move (.dat _) rfl) ?_
  obtain ⟨r3, h4, H⟩ := bnd H
  refine seq_run0 (stp_call (k_slices_Index_L_string_string_ s1 v2 r3 h4) ⟨.inl rfl, .inl rfl, trivial⟩) ?_
  refine seq_run0 (stp_geq rfl rfl) ?_
  refine seq_run0 (stp_assign (.dat _) rfl) ?_
  refine awp_ret ?_
  cases H
  exact ⟨trivial, .inl rfl, trivial⟩
theorem k_gateref2_MatchesOf (header1 : Bs) (tag2 : Bs) (r : (Bool × Int)) (H : m_gateref2_MatchesOf header1 tag2 = some r) : Fn Tryz.prog 9 [vstr header1, vstr tag2] (resOf [vbool r.1, vint r.2]) := by
  refine ⟨by kernel_rfl, pure_of (us := [vbool r.1, vint r.2]) Tryz.func9 rfl rfl rfl rfl fun X hN => ?_⟩
  unfold m_gateref2_MatchesOf at H
  refine awp_seq ?_
  refine awp_plain hN rfl ?_
  refine seq_run0 (stp_assign (.dat _) rfl) ?_
  refine seq_run0 (stp_assign (.dat _) rfl) ?_
  refine awp_seq ?_
  refine awp_plain hN rfl ?_
  refine seq_run0 (stp_move (.dat _) rfl) ?_
  obtain ⟨r3, h4, H⟩ := bnd H
  refine seq_run0 (stp_call (k_gateref2_tagOf tag2 r3 h4) ⟨.inl rfl, trivial⟩) ?_
  refine seq_run0 (stp_move (.dat _) rfl) ?_
  refine seq_run0 (stp_ext rfl rfl) ?_
  refine seq_run0 (stp_ext rfl rfl) ?_
  refine seq_run0 (stp_assign (.dat _) rfl) ?_
  refine seq_run0 (stp_assign (.dat _) rfl) ?_
  refine awp_seq ?_
  refine awp_plain hN rfl ?_
  refine seq_run0 (stp_assign (.dat _) rfl) ?_
  refine awp_joinZ (ι := Bool × (List Bs)) (fun i => [(0, .dat (vstr header1)), (6, .dat (vstr r3.1)), (7, .dat (vbool i.1)), (8, .dat (vlst (List.map C_string i.2)))]) (fun i => []) (fun i => gateref2_MatchesOf_J1 header1 r3 i.1 i.2 = some r) (fun i => rfl) (fun i => rfl) ?_ ?_
  · skip
    refine awp_seq ?_
    refine awp_plain hN rfl ?_
    refine seq_run0 (stp_move (.dat _) rfl) ?_
    refine seq_run0 (stp_sneq rfl rfl) ?_
    refine awp_cond _ rfl (fun h5 => ?_) (fun h5 => ?_)
    · replace H := ift h5 H
      refine awp_seq ?_
      refine awp_plain hN rfl ?_
      refine seq_run0 (stp_move (.dat _) rfl) ?_
      obtain ⟨r6, h7, H⟩ := bnd H
      refine seq_run0 (stp_call (k_strings_Split header1 [44] r6 h7) ⟨.inl rfl, .inl rfl, trivial⟩) ?_
      refine seq_run0 (t_len tyU48 rfl) ?_
      refine seq_run0 (stp_move (.dat _) rfl) ?_
      refine awp_block ?_
      refine awp_nilrow 8 1 9 1 rfl rfl rfl ?_
      obtain ⟨h12, H⟩ := gif H
      refine awp_forL (fun (k10 : Nat) (s : Bool × (List Bs)) => [(0, .dat (vstr header1)), (6, .dat (vstr r3.1)), (7, .dat (vbool s.1)), (8, .row 1 s.2.length), (21, .dat (vlst (List.map C_string r6))), (22, .dat (vint (r6.length : Int))), (23, .dat (vint (k10 : Int)))]) (fun (k10 : Nat) (s : Bool × (List Bs)) => [(1, .row 9 1 (List.map C_string s.2))]) (r3.2, []) H ⟨rfl, rfl, rfl, rfl, rfl, rfl, rfl, trivial⟩ ⟨rfl, trivial⟩ (fun _ _ => rfl) ?_ ?_
      · rintro ⟨ok8, l9⟩ H
        replace H : gateref2_MatchesOf_E2 header1 r3 ok8 l9 = some r := H
        unfold gateref2_MatchesOf_E2 at H
        refine awp_seq ?_
        refine awp_plain hN rfl ?_
        refine seq_run0 (stp_lss rfl rfl) ?_
        refine awp_seq ?_
        refine awp_cond _ rfl (fun h => (lt_t h).elim) (fun h => ?_)
        refine awp_exit ?_
        exact ⟨[(8, 1)], _, _, _, _, rfl, rfl, by simp, ⟨(ok8, l9), H, ⟨.inl rfl, .inl rfl, .inl rfl, .inl rfl, trivial⟩, trivial⟩⟩
      · rintro k10 x13 ⟨ok8, l9⟩ q11 h14 h15 H hq11
        replace H : gateref2_MatchesOf_L2 k10 x13 ok8 l9 = some q11 := H
        unfold gateref2_MatchesOf_L2 at H
        refine awp_seq ?_
        refine awp_plain hN rfl ?_
        refine seq_run0 (stp_lss rfl rfl) ?_
        refine awp_seq ?_
        refine awp_cond _ rfl (fun h => ?_) (fun h => (lt_f h14 h).elim)
        refine awp_skip ?_
        refine awp_seq ?_
        refine awp_block ?_
        refine awp_seq ?_
        refine awp_plain hN rfl ?_
        refine seq_run0 (t_idx tyE48 (fun _ => rfl) rfl rfl h15) ?_
        refine seq_run0 (stp_loadE1 tyS9 rfl (map_at h15) rfl) ?_
        refine seq_run0 (stp_assign (.dat _) rfl) ?_
        refine awp_seq ?_
        refine awp_plain hN rfl ?_
        refine seq_run0 (stp_move (.dat _) rfl) ?_
        obtain ⟨r16, h17, H⟩ := bnd H
        refine seq_run0 (stp_call (k_strings_Trim x13 [32] r16 h17) ⟨.inl rfl, .inl rfl, trivial⟩) ?_
        obtain ⟨r18, h19, H⟩ := bnd H
        refine seq_run0 (stp_call (k_gateref2_tagOf r16 r18 h19) ⟨.inl rfl, trivial⟩) ?_
        refine seq_run0 (stp_move (.dat _) rfl) ?_
        refine seq_run0 (stp_ext rfl rfl) ?_
        refine seq_run0 (stp_ext rfl rfl) ?_
        refine seq_run0 (stp_assign (.dat _) rfl) ?_
        refine seq_run0 (stp_assign (.dat _) rfl) ?_
        refine awp_seq ?_
        refine awp_plain hN rfl ?_
        refine seq_run0 (stp_move (.dat _) rfl) ?_
        refine seq_run0 (stp_move (.dat _) rfl) ?_
        refine seq_aT rfl rfl (fun hc => stp_move (.dat _) rfl) ?_
        refine seq_run0 (stp_pick_and rfl (fun hb => (cnd (c := ok8) hb)) rfl) ?_
        refine seq_run0 (stp_assign (.dat _) rfl) ?_
        refine awp_plain hN rfl ?_
        refine seq_run0 (stp_move (.row _ _) rfl) ?_
        refine seq_run0 (stp_move (.dat _) rfl) ?_
        refine seq_run0 (stp_dat (u' := vlst (List.map C_string [r18.1])) (stp_lit [[_]] tyL48 ⟨rfl, .inl ⟨_, rfl, rfl, rfl⟩, rfl, trivial⟩ rfl rfl) rfl) ?_
        obtain ⟨h20, H⟩ := gif H
        refine seq_run2 (t_app tyL48 (fun _ => rfl) rfl rfl rfl ⟨by simp, by first | (simp; done) | simpa using h20⟩ rfl) rfl ?_
        refine seq_run0 (stp_assign (.row _ _) rfl) ?_
        refine awp_plain hN rfl ?_
        refine seq_run0 (stp_add rfl rfl (by omega)) ?_
        refine seq_run0 (stp_move (.dat _) rfl) ?_
        exact ⟨_, backl H, ⟨rfl, rfl, rfl, rfl, rfl, rfl, rfl, trivial⟩, ⟨rfl, trivial⟩⟩
    · replace H := iff_ h5 H
      refine awp_skip ?_
      exact ⟨[], ⟨(r3.2, []), H, ⟨.inl rfl, .inl rfl, .inl rfl, .inr ⟨rfl, rfl⟩, trivial⟩, trivial⟩⟩
  · rintro ⟨ok21, l22⟩ H
    replace H : gateref2_MatchesOf_J1 header1 r3 ok21 l22 = some r := H
    unfold gateref2_MatchesOf_J1 at H
    refine awp_seq ?_
    refine awp_seq ?_
    refine awp_plain hN rfl ?_
    refine seq_run0 (stp_move (.dat _) rfl) ?_
    refine seq_run0 (stp_not rfl) ?_
    refine awp_cond _ rfl (fun h23 => ?_) (fun h23 => ?_)
    · replace H := ift h23 H
      refine awp_seq ?_
      refine awp_plain hN rfl ?_
      refine seq_run0 (stp_assign (.dat _) rfl) ?_
      refine seq_run0 (stp_assign (.dat _) rfl) ?_
      refine awp_ret ?_
      cases H
      exact ⟨trivial, .inl rfl, .inl rfl, trivial⟩
    · replace H := iff_ h23 H
      refine awp_skip ?_
      refine awp_joinE (ι := Bool) (fun i => [(4, .dat (vbool i)), (5, .dat (vint 0))]) (fun i => []) (fun i => gateref2_MatchesOf_J3 i = some r) (fun i => rfl) ?_ ?_
      · skip
        refine awp_plain hN rfl ?_
        refine seq_run0 (stp_move (.dat _) rfl) ?_
        refine seq_run0 (stp_seql rfl rfl) ?_
        refine seq_run0 (stp_move (.dat _) rfl) ?_
        refine seq_split (j := 2) rfl rfl (fun h24 => ?_) (fun h24 => ?_) rfl
        · have h25 := un3 h24
          replace H := iff_ h25 H
          refine seq_g0 rfl rfl h24 (stp_move (.dat _) rfl) ?_
          refine seq_g0 rfl rfl h24 (stp_move (.dat _) rfl) ?_
          obtain ⟨r26, h27, H⟩ := bnd H
          refine seq_g0 rfl rfl h24 (stp_call (k_slices_Contains_L_string_string_ l22 r3.1 r26 h27) ⟨.inl rfl, .inl rfl, trivial⟩) ?_
          refine seq_run0 (stp_pick_f rfl (bFF h25) rfl) ?_
          refine seq_run0 (stp_assign (.dat _) rfl) ?_
          refine seq_run0 (stp_assign (.dat _) rfl) ?_
          exact ⟨r26, H, ⟨rfl, rfl, trivial⟩, trivial⟩
        · have h28 := un4 h24
          replace H := ift h28 H
          refine seq_skip rfl rfl h24 ?_
          refine seq_skip rfl rfl h24 ?_
          refine seq_skip rfl rfl h24 ?_
          refine seq_run0 (stp_pick_t rfl (bTT h28) rfl) ?_
          refine seq_run0 (stp_assign (.dat _) rfl) ?_
          refine seq_run0 (stp_assign (.dat _) rfl) ?_
          exact ⟨true, H, ⟨rfl, rfl, trivial⟩, trivial⟩
      · rintro v29 H
        replace H : gateref2_MatchesOf_J3 v29 = some r := H
        unfold gateref2_MatchesOf_J3 at H
        refine awp_ret ?_
        cases H
        exact ⟨trivial, .inl rfl, .inl rfl, trivial⟩
theorem k_kit_IsMoment (n1 : Int) (r : (Bool)) (H : m_kit_IsMoment n1 = some r) : Fn Tryz.prog 68 [vint n1] (resOf [vbool r]) := by
  refine ⟨by kernel_rfl, pure_of (us := [vbool r]) Tryz.func68 rfl rfl rfl rfl fun X hN => ?_⟩
  unfold m_kit_IsMoment at H
  refine awp_seq ?_
  refine awp_plain hN rfl ?_
  refine seq_run0 (stp_assign (.dat _) rfl) ?_
  refine awp_seq ?_
  refine awp_plain hN rfl ?_
  refine seq_run0 (stp_move (.dat _) rfl) ?_
  refine seq_run0 (stp_geq rfl rfl) ?_
  refine seq_run0 (stp_move (.dat _) rfl) ?_
  refine seq_aT rfl rfl (fun hc => stp_move (.dat _) rfl) ?_
  refine seq_aT rfl rfl (fun hc => stp_lss (cnd (c := (decide (0 ≤ n1))) hc) rfl) ?_
  refine seq_run0 (stp_pick_and rfl (fun hb => (cnd (c := (decide (0 ≤ n1))) hb)) rfl) ?_
  refine seq_run0 (stp_assign (.dat _) rfl) ?_
  refine awp_ret ?_
  cases H
  exact ⟨trivial, .inl rfl, trivial⟩
theorem k_message_isLetter (c1 : Int) (r : (Bool)) (H : m_message_isLetter c1 = some r) : Fn Tryz.prog 125 [vval (.int .u8 c1)] (resOf [vbool r]) := by
  refine ⟨by kernel_rfl, pure_of (us := [vbool r]) Tryz.func125 rfl rfl rfl rfl fun X hN => ?_⟩
  unfold m_message_isLetter at H
  refine awp_seq ?_
  refine awp_plain hN rfl ?_
  refine seq_run0 (stp_assign (.dat _) rfl) ?_
  refine awp_seq ?_
  refine awp_plain hN rfl ?_
  refine seq_run0 (stp_move (.dat _) rfl) ?_
  refine seq_run0 (stp_geq rfl rfl) ?_
  refine seq_run0 (stp_move (.dat _) rfl) ?_
  refine seq_aT rfl rfl (fun hc => stp_move (.dat _) rfl) ?_
  refine seq_aT rfl rfl (fun hc => stp_leq (cnd (c := (decide (97 ≤ c1))) hc) rfl) ?_
  refine seq_run0 (stp_pick_and rfl (fun hb => (cnd (c := (decide (97 ≤ c1))) hb)) rfl) ?_
  refine seq_run0 (stp_move (.dat _) rfl) ?_
  refine seq_aF rfl rfl (fun hc => stp_move (.dat _) rfl) ?_
  refine seq_aF rfl rfl (fun hc => stp_geq (cnd (c := (!((decide (97 ≤ c1)) && (decide (c1 ≤ 122))))) hc) rfl) ?_
  refine seq_aF rfl rfl (fun hc => stp_move (.dat _) (cnd (c := (!((decide (97 ≤ c1)) && (decide (c1 ≤ 122))))) hc)) ?_
  refine seq_bT rfl rfl (fun hc => stp_move (.dat _) rfl) ?_
  refine seq_bT rfl rfl (fun hc => stp_leq (cnd (c := ((!((decide (97 ≤ c1)) && (decide (c1 ≤ 122)))) && (decide (65 ≤ c1)))) hc) rfl) ?_
  refine seq_aF rfl rfl (fun hc => stp_pick_and (cnd (c := (!((decide (97 ≤ c1)) && (decide (c1 ≤ 122))))) hc) (fun hb => (cnd (c := ((!((decide (97 ≤ c1)) && (decide (c1 ≤ 122)))) && (decide (65 ≤ c1)))) (andI hc hb))) rfl) ?_
  refine seq_run0 (stp_pick_or rfl rfl (fun hb => (cnd (c := (!((decide (97 ≤ c1)) && (decide (c1 ≤ 122))))) (notI hb)))) ?_
  refine seq_run0 (stp_assign (.dat _) rfl) ?_
  refine awp_ret ?_
  cases H
  exact ⟨trivial, .inl rfl, trivial⟩
theorem k_message_isDigit (c1 : Int) (r : (Bool)) (H : m_message_isDigit c1 = some r) : Fn Tryz.prog 126 [vval (.int .u8 c1)] (resOf [vbool r]) := by
  refine ⟨by kernel_rfl, pure_of (us := [vbool r]) Tryz.func126 rfl rfl rfl rfl fun X hN => ?_⟩
  unfold m_message_isDigit at H
  refine awp_seq ?_
  refine awp_plain hN rfl ?_
  refine seq_run0 (stp_assign (.dat _) rfl) ?_
  refine awp_seq ?_
  refine awp_plain hN rfl ?_
  refine seq_run0 (stp_move (.dat _) rfl) ?_
  refine seq_run0 (stp_geq rfl rfl) ?_
  refine seq_run0 (stp_move (.dat _) rfl) ?_
  refine seq_aT rfl rfl (fun hc => stp_move (.dat _) rfl) ?_
  refine seq_aT rfl rfl (fun hc => stp_leq (cnd (c := (decide (48 ≤ c1))) hc) rfl) ?_
  refine seq_run0 (stp_pick_and rfl (fun hb => (cnd (c := (decide (48 ≤ c1))) hb)) rfl) ?_
  refine seq_run0 (stp_assign (.dat _) rfl) ?_
  refine awp_ret ?_
  cases H
  exact ⟨trivial, .inl rfl, trivial⟩
theorem k_strings_IndexByte (l : Bs) (c r : Int) (H : m_strings_IndexByte l c = some r) : Fn Tryz.prog 105 [vstr l, vval (.int .u8 c)] (resOf [vint r]) := by
  cases H
  refine fn_of_calls (by kernel_rfl) fun M w vs h => ?_
  have h1 := Ts_vals (us := [.string ⟨l.toArray⟩, .int .u8 c]) h
  subst h1
  refine (Tryz.strings_IndexByte ⟨l.toArray⟩ c w).mono ?_
  rintro e w' ⟨rfl, rfl⟩
  exact ⟨_, rfl, rfl, Kp.refl _ _⟩
theorem k_message_isTokenByte (c1 : Int) (r : (Bool)) (H : m_message_isTokenByte c1 = some r) : Fn Tryz.prog 100 [vval (.int .u8 c1)] (resOf [vbool r]) := by
  refine ⟨by kernel_rfl, pure_of (us := [vbool r]) Tryz.func100 rfl rfl rfl rfl fun X hN => ?_⟩
  unfold m_message_isTokenByte at H
  refine awp_seq ?_
  refine awp_plain hN rfl ?_
  refine seq_run0 (stp_assign (.dat _) rfl) ?_
  refine awp_joinE (ι := Bool) (fun i => [(2, .dat (vbool i))]) (fun i => []) (fun i => message_isTokenByte_J1 i = some r) (fun i => rfl) ?_ ?_
  · skip
    refine awp_plain hN rfl ?_
    refine seq_run0 (stp_move (.dat _) rfl) ?_
    obtain ⟨r2, h3, H⟩ := bnd H
    refine seq_run0 (stp_call (k_message_isLetter c1 r2 h3) ⟨.inl rfl, trivial⟩) ?_
    refine seq_run0 (stp_move (.dat _) rfl) ?_
    refine seq_split (j := 2) rfl rfl (fun h4 => ?_) (fun h4 => ?_) rfl
    · have h5 := un3 h4
      replace H := iff_ h5 H
      refine seq_g0 rfl rfl h4 (stp_move (.dat _) rfl) ?_
      obtain ⟨r6, h7, H⟩ := bnd H
      refine seq_g0 rfl rfl h4 (stp_call (k_message_isDigit c1 r6 h7) ⟨.inl rfl, trivial⟩) ?_
      refine seq_run0 (stp_pick_f rfl (bFF h5) rfl) ?_
      refine seq_run0 (stp_move (.dat _) rfl) ?_
      refine seq_split (j := 6) rfl rfl (fun h8 => ?_) (fun h8 => ?_) rfl
      · have h9 := un3 h8
        replace H := iff_ h9 H
        refine seq_g0 rfl rfl h8 (stp_move (.dat _) rfl) ?_
        obtain ⟨r10, h11, H⟩ := bnd H
        refine seq_g0 rfl rfl h8 (stp_call (k_strings_IndexByte [33, 35, 36, 37, 38, 39, 42, 43, 45, 46, 94, 95, 96, 124, 126] c1 r10 h11) ⟨.inl rfl, .inl rfl, trivial⟩) ?_
        refine seq_g0 rfl rfl h8 (stp_geq rfl rfl) ?_
        refine seq_run0 (stp_pick_f rfl (bFF h9) rfl) ?_
        refine seq_run0 (stp_assign (.dat _) rfl) ?_
        exact ⟨decide (0 ≤ r10), H, ⟨rfl, trivial⟩, trivial⟩
      · have h12 := un4 h8
        replace H := ift h12 H
        refine seq_skip rfl rfl h8 ?_
        refine seq_skip rfl rfl h8 ?_
        refine seq_skip rfl rfl h8 ?_
        refine seq_run0 (stp_pick_t rfl (bTT h12) rfl) ?_
        refine seq_run0 (stp_assign (.dat _) rfl) ?_
        exact ⟨true, H, ⟨rfl, trivial⟩, trivial⟩
    · have h13 := un4 h4
      replace H := ift h13 H
      refine seq_skip rfl rfl h4 ?_
      refine seq_skip rfl rfl h4 ?_
      refine seq_run0 (stp_pick_t rfl (bTT h13) rfl) ?_
      refine seq_run0 (stp_move (.dat _) rfl) ?_
      refine seq_skip rfl rfl rfl ?_
      refine seq_skip rfl rfl rfl ?_
      refine seq_skip rfl rfl rfl ?_
      refine seq_run0 (stp_pick_t rfl rfl rfl) ?_
      refine seq_run0 (stp_assign (.dat _) rfl) ?_
      exact ⟨true, H, ⟨rfl, trivial⟩, trivial⟩
  · rintro v14 H
    replace H : message_isTokenByte_J1 v14 = some r := H
    unfold message_isTokenByte_J1 at H
    refine awp_ret ?_
    cases H
    exact ⟨trivial, .inl rfl, trivial⟩
theorem k_message_IsToken (s1 : Bs) (r : (Bool)) (H : m_message_IsToken s1 = some r) : Fn Tryz.prog 69 [vstr s1] (resOf [vbool r]) := by
  refine ⟨by kernel_rfl, pure_of (us := [vbool r]) Tryz.func69 rfl rfl rfl rfl fun X hN => ?_⟩
  unfold m_message_IsToken at H
  refine awp_seq ?_
  refine awp_plain hN rfl ?_
  refine seq_run0 (stp_assign (.dat _) rfl) ?_
  refine awp_seq ?_
  refine awp_seq ?_
  refine awp_plain hN rfl ?_
  refine seq_run0 (stp_move (.dat _) rfl) ?_
  refine seq_run0 (stp_len_str tyU9 rfl) ?_
  refine seq_run0 (stp_move (.dat _) rfl) ?_
  refine awp_block ?_
  obtain ⟨h4, H⟩ := gif H
  refine awp_forL (fun (k2 : Nat) (s : Unit) => [(0, .dat (vstr s1)), (5, .dat (vint (s1.length : Int))), (6, .dat (vint (k2 : Int)))]) (fun (k2 : Nat) (s : Unit) => []) () H ⟨rfl, rfl, rfl, trivial⟩ trivial (fun _ _ => rfl) ?_ ?_
  · rintro ⟨⟩ H
    replace H : message_IsToken_E1 s1 = some r := H
    unfold message_IsToken_E1 at H
    refine awp_seq ?_
    refine awp_plain hN rfl ?_
    refine seq_run0 (stp_lss rfl rfl) ?_
    refine awp_seq ?_
    refine awp_cond _ rfl (fun h => (lt_t h).elim) (fun h => ?_)
    refine awp_exit ?_
    refine awp_seq ?_
    refine awp_plain hN rfl ?_
    refine seq_run0 (stp_move (.dat _) rfl) ?_
    refine seq_run0 (stp_sneq rfl rfl) ?_
    refine seq_run0 (stp_move (.dat _) rfl) ?_
    refine seq_aT rfl rfl (fun hc => stp_move (.dat _) rfl) ?_
    refine seq_aT rfl rfl (fun hc => stp_len_str tyU9 (cnd (c := (decide (s1 ≠ []))) hc)) ?_
    refine seq_aT rfl rfl (fun hc => stp_leq (cnd (c := (decide (s1 ≠ []))) hc) rfl) ?_
    refine seq_run0 (stp_pick_and rfl (fun hb => (cnd (c := (decide (s1 ≠ []))) hb)) rfl) ?_
    refine seq_run0 (stp_assign (.dat _) rfl) ?_
    refine awp_ret ?_
    cases H
    exact ⟨trivial, .inl rfl, trivial⟩
  · rintro k2 x5 ⟨⟩ q3 h6 h7 H hq3
    replace H : message_IsToken_L1 k2 x5 = some q3 := H
    unfold message_IsToken_L1 at H
    refine awp_seq ?_
    refine awp_plain hN rfl ?_
    refine seq_run0 (stp_lss rfl rfl) ?_
    refine awp_seq ?_
    refine awp_cond _ rfl (fun h => ?_) (fun h => (lt_f h6 h).elim)
    refine awp_skip ?_
    refine awp_seq ?_
    refine awp_block ?_
    refine awp_seq ?_
    refine awp_plain hN rfl ?_
    refine seq_run0 (stp_move (.dat _) rfl) ?_
    refine seq_run0 (stp_assign (.dat _) rfl) ?_
    refine awp_seq ?_
    refine awp_plain hN rfl ?_
    refine seq_run0 (stp_move (.dat _) rfl) ?_
    refine seq_run0 (stp_move (.dat _) rfl) ?_
    refine seq_run0 (t_byte tyU9 rfl rfl h7) ?_
    obtain ⟨r8, h9, H⟩ := bnd H
    refine seq_run0 (stp_call (k_message_isTokenByte (x5.toNat : Int) r8 h9) ⟨.inl rfl, trivial⟩) ?_
    refine seq_run0 (stp_not rfl) ?_
    refine awp_cond _ rfl (fun h10 => ?_) (fun h10 => ?_)
    · replace H := ift h10 H
      refine awp_seq ?_
      refine awp_plain hN rfl ?_
      refine seq_run0 (stp_assign (.dat _) rfl) ?_
      refine awp_ret ?_
      replace H := retl H hq3
      cases H
      exact ⟨trivial, .inl rfl, trivial⟩
    · replace H := iff_ h10 H
      refine awp_skip ?_
      refine awp_plain hN rfl ?_
      refine seq_run0 (stp_add rfl rfl (by omega)) ?_
      refine seq_run0 (stp_move (.dat _) rfl) ?_
      exact ⟨_, backl H, ⟨rfl, rfl, rfl, trivial⟩, trivial⟩
theorem k_strings_Cut (s p : Bs) (r : Bs × Bs × Bool) (H : m_strings_Cut s p = some r) : Fn Tryz.prog 78 [vstr s, vstr p] (resOf [vstr r.1, vstr r.2.1, vbool r.2.2]) := by
  unfold m_strings_Cut at H
  obtain ⟨h1, h2⟩ := gif H
  cases h2
  refine fn_of_callsG (by kernel_rfl) fun M w vs hM h => ?_
  have hv := Ts_vals (us := [.string ⟨s.toArray⟩, .string ⟨p.toArray⟩]) h
  subst hv
  obtain ⟨m, hm⟩ := maxLen_cell hM
  refine (Tryz.strings_Cut ⟨s.toArray⟩ ⟨p.toArray⟩ m w (by simp [ByteArray.size]; omega) hm).mono ?_
  rintro e w' ⟨rfl, n, rfl⟩
  refine ⟨_, rfl, ⟨[_, _, _], rfl, rfl, fun j u hj => ?_⟩, ⟨rfl, rfl, rfl, Nat.le_refl _, fun _ _ _ => rfl⟩⟩
  rcases j with _ | _ | _ | j
  · cases hj; exact ⟨_, rfl, rfl⟩
  · cases hj; exact ⟨_, rfl, rfl⟩
  · cases hj; exact ⟨_, rfl, rfl⟩
  · simp at hj

theorem k_internal_strconv_lower (c1 : Int) (r : (Int)) (H : m_internal_strconv_lower c1 = some r) : Fn Tryz.prog 179 [vval (.int .u8 c1)] (resOf [vval (.int .u8 r)]) := by
  refine ⟨by kernel_rfl, pure_of (us := [vval (.int .u8 r)]) Tryz.func179 rfl rfl rfl rfl fun X hN => ?_⟩
  unfold m_internal_strconv_lower at H
  refine awp_seq ?_
  refine awp_plain hN rfl ?_
  refine seq_run0 (stp_assign (.dat _) rfl) ?_
  refine awp_seq ?_
  refine awp_plain hN rfl ?_
  refine seq_run0 (stp_move (.dat _) rfl) ?_
  refine seq_run0 (stp_dat (stp_or rfl rfl) rfl) ?_
  refine seq_run0 (stp_assign (.dat _) rfl) ?_
  refine awp_ret ?_
  cases H
  exact ⟨trivial, .inl rfl, trivial⟩
theorem k_internal_strconv_underscoreOK (v1 : Bs) (r : (Bool)) (H : m_internal_strconv_underscoreOK v1 = some r) : Fn Tryz.prog 180 [vstr v1] (resOf [vbool r]) := by
  refine ⟨by kernel_rfl, pure_of (us := [vbool r]) Tryz.func180 rfl rfl rfl rfl fun X hN => ?_⟩
  unfold m_internal_strconv_underscoreOK at H
  refine awp_seq ?_
  refine awp_plain hN rfl ?_
  refine seq_run0 (stp_assign (.dat _) rfl) ?_
  refine awp_seq ?_
  refine awp_plain hN rfl ?_
  refine seq_run0 (stp_assign (.dat _) rfl) ?_
  refine awp_seq ?_
  refine awp_plain hN rfl ?_
  refine seq_run0 (stp_assign (.dat _) rfl) ?_
  refine awp_joinE (ι := Bs) (fun i => [(0, .dat (vstr i)), (3, .dat (vval (.int .i32 94))), (4, .dat (vint 0))]) (fun i => []) (fun i => internal_strconv_underscoreOK_J1 i = some r) (fun i => rfl) ?_ ?_
  · skip
    refine awp_joinE (ι := Bool) (fun i => [(0, .dat (vstr v1)), (3, .dat (vval (.int .i32 94))), (4, .dat (vint 0)), (18, .dat (vbool i))]) (fun i => []) (fun i => internal_strconv_underscoreOK_J2 v1 i = some r) (fun i => rfl) ?_ ?_
    · skip
      refine awp_plain hN rfl ?_
      refine seq_run0 (stp_move (.dat _) rfl) ?_
      refine seq_run0 (stp_len_str tyU9 rfl) ?_
      refine seq_run0 (stp_geq rfl rfl) ?_
      refine seq_run0 (stp_move (.dat _) rfl) ?_
      refine seq_split (j := 3) rfl rfl (fun h2 => ?_) (fun h2 => ?_) rfl
      · have h3 := un1 h2
        replace H := ift h3 H
        refine seq_g0 rfl rfl h2 (stp_move (.dat _) rfl) ?_
        obtain ⟨x4, h5, H⟩ := bnd H
        refine seq_g0 rfl rfl h2 (t_byte tyU9 rfl rfl h5) ?_
        refine seq_g0 rfl rfl h2 (stp_eql rfl rfl) ?_
        refine seq_g0 rfl rfl h2 (stp_move (.dat _) rfl) ?_
        refine seq_split (j := 7) rfl rfl (fun h6 => ?_) (fun h6 => ?_) rfl
        · have h7 := un3 h6
          replace H := iff_ h7 H
          refine seq_g0 rfl rfl h6 (stp_move (.dat _) rfl) ?_
          refine seq_g0 rfl rfl h6 (t_byte tyU9 rfl rfl h5) ?_
          refine seq_g0 rfl rfl h6 (stp_eql rfl rfl) ?_
          refine seq_g0 rfl rfl h2 (stp_pick_f rfl (bFF h7) rfl) ?_
          refine seq_run0 (stp_pick_t rfl (bTT h3) rfl) ?_
          exact ⟨decide ((x4.toNat : Int) = 43), H, ⟨rfl, rfl, rfl, rfl, trivial⟩, trivial⟩
        · have h8 := un4 h6
          replace H := ift h8 H
          refine seq_skip rfl rfl h6 ?_
          refine seq_skip rfl rfl h6 ?_
          refine seq_skip rfl rfl h6 ?_
          refine seq_g0 rfl rfl h2 (stp_pick_t rfl (bTT h8) rfl) ?_
          refine seq_run0 (stp_pick_t rfl (bTT h3) rfl) ?_
          exact ⟨true, H, ⟨rfl, rfl, rfl, rfl, trivial⟩, trivial⟩
      · have h9 := un2 h2
        replace H := iff_ h9 H
        refine seq_skip rfl rfl h2 ?_
        refine seq_skip rfl rfl h2 ?_
        refine seq_skip rfl rfl h2 ?_
        refine seq_skip rfl rfl h2 ?_
        refine seq_skipU rfl rfl ?_
        refine seq_skipU rfl rfl ?_
        refine seq_skipU rfl rfl ?_
        refine seq_skip rfl rfl h2 ?_
        refine seq_run0 (stp_pick_f rfl (bFF h9) rfl) ?_
        exact ⟨false, H, ⟨rfl, rfl, rfl, rfl, trivial⟩, trivial⟩
    · rintro v10 H
      replace H : internal_strconv_underscoreOK_J2 v1 v10 = some r := H
      unfold internal_strconv_underscoreOK_J2 at H
      refine awp_cond _ rfl (fun h11 => ?_) (fun h11 => ?_)
      · replace H := ift h11 H
        refine awp_plain hN rfl ?_
        refine seq_run0 (stp_move (.dat _) rfl) ?_
        obtain ⟨l12, h13, H⟩ := bnd H
        refine seq_run0 (t_subS tyU9 rfl rfl rfl h13) ?_
        refine seq_run0 (stp_assign (.dat _) rfl) ?_
        exact ⟨l12, H, ⟨rfl, rfl, rfl, trivial⟩, trivial⟩
      · replace H := iff_ h11 H
        refine awp_skip ?_
        exact ⟨v1, H, ⟨rfl, rfl, rfl, trivial⟩, trivial⟩
  · rintro v14 H
    replace H : internal_strconv_underscoreOK_J1 v14 = some r := H
    unfold internal_strconv_underscoreOK_J1 at H
    refine awp_seq ?_
    refine awp_plain hN rfl ?_
    refine seq_run0 (stp_assign (.dat _) rfl) ?_
    refine awp_joinE (ι := Int × Int × Bool) (fun i => [(0, .dat (vstr v14)), (3, .dat (vval (.int .i32 i.1))), (4, .dat (vint i.2.1)), (5, .dat (vbool i.2.2))]) (fun i => []) (fun i => internal_strconv_underscoreOK_J3 v14 i.1 i.2.1 i.2.2 = some r) (fun i => rfl) ?_ ?_
    · skip
      refine awp_joinE (ι := Bool) (fun i => [(0, .dat (vstr v14)), (3, .dat (vval (.int .i32 94))), (4, .dat (vint 0)), (5, .dat (vbool false)), (46, .dat (vbool i))]) (fun i => []) (fun i => internal_strconv_underscoreOK_J4 v14 i = some r) (fun i => rfl) ?_ ?_
      · skip
        refine awp_plain hN rfl ?_
        refine seq_run0 (stp_move (.dat _) rfl) ?_
        refine seq_run0 (stp_len_str tyU9 rfl) ?_
        refine seq_run0 (stp_geq rfl rfl) ?_
        refine seq_run0 (stp_move (.dat _) rfl) ?_
        refine seq_split (j := 3) rfl rfl (fun h15 => ?_) (fun h15 => ?_) rfl
        · have h16 := un1 h15
          replace H := ift h16 H
          refine seq_g0 rfl rfl h15 (stp_move (.dat _) rfl) ?_
          obtain ⟨x17, h18, H⟩ := bnd H
          refine seq_g0 rfl rfl h15 (t_byte tyU9 rfl rfl h18) ?_
          refine seq_g0 rfl rfl h15 (stp_eql rfl rfl) ?_
          refine seq_run0 (stp_pick_t rfl (bTT h16) rfl) ?_
          refine seq_run0 (stp_move (.dat _) rfl) ?_
          refine seq_split (j := 8) rfl rfl (fun h19 => ?_) (fun h19 => ?_) rfl
          · have h20 := un1 h19
            replace H := ift h20 H
            refine seq_g0 rfl rfl h19 (stp_move (.dat _) rfl) ?_
            obtain ⟨x21, h22, H⟩ := bnd H
            refine seq_g0 rfl rfl h19 (t_byte tyU9 rfl rfl h22) ?_
            obtain ⟨r23, h24, H⟩ := bnd H
            refine seq_g0 rfl rfl h19 (stp_call (k_internal_strconv_lower (x21.toNat : Int) r23 h24) ⟨.inl rfl, trivial⟩) ?_
            refine seq_g0 rfl rfl h19 (stp_eql rfl rfl) ?_
            refine seq_g0 rfl rfl h19 (stp_move (.dat _) rfl) ?_
            refine seq_split (j := 13) rfl rfl (fun h25 => ?_) (fun h25 => ?_) rfl
            · have h26 := un3 h25
              replace H := iff_ h26 H
              refine seq_g0 rfl rfl h25 (stp_move (.dat _) rfl) ?_
              refine seq_g0 rfl rfl h25 (t_byte tyU9 rfl rfl h22) ?_
              obtain ⟨r27, h28, H⟩ := bnd H
              refine seq_g0 rfl rfl h25 (stp_call (k_internal_strconv_lower (x21.toNat : Int) r27 h28) ⟨.inl rfl, trivial⟩) ?_
              refine seq_g0 rfl rfl h25 (stp_eql rfl rfl) ?_
              refine seq_g0 rfl rfl h19 (stp_pick_f rfl (bFF h26) rfl) ?_
              refine seq_g0 rfl rfl h19 (stp_move (.dat _) rfl) ?_
              refine seq_split (j := 19) rfl rfl (fun h29 => ?_) (fun h29 => ?_) rfl
              · have h30 := un3 h29
                replace H := iff_ h30 H
                refine seq_g0 rfl rfl h29 (stp_move (.dat _) rfl) ?_
                refine seq_g0 rfl rfl h29 (t_byte tyU9 rfl rfl h22) ?_
                obtain ⟨r31, h32, H⟩ := bnd H
                refine seq_g0 rfl rfl h29 (stp_call (k_internal_strconv_lower (x21.toNat : Int) r31 h32) ⟨.inl rfl, trivial⟩) ?_
                refine seq_g0 rfl rfl h29 (stp_eql rfl rfl) ?_
                refine seq_g0 rfl rfl h19 (stp_pick_f rfl (bFF h30) rfl) ?_
                refine seq_run0 (stp_pick_t rfl (bTT h20) rfl) ?_
                exact ⟨decide (r31 = 120), H, ⟨rfl, rfl, rfl, rfl, rfl, trivial⟩, trivial⟩
              · have h33 := un4 h29
                replace H := ift h33 H
                refine seq_skip rfl rfl h29 ?_
                refine seq_skip rfl rfl h29 ?_
                refine seq_skip rfl rfl h29 ?_
                refine seq_skip rfl rfl h29 ?_
                refine seq_g0 rfl rfl h19 (stp_pick_t rfl (bTT h33) rfl) ?_
                refine seq_run0 (stp_pick_t rfl (bTT h20) rfl) ?_
                exact ⟨true, H, ⟨rfl, rfl, rfl, rfl, rfl, trivial⟩, trivial⟩
            · have h34 := un4 h25
              replace H := ift h34 H
              refine seq_skip rfl rfl h25 ?_
              refine seq_skip rfl rfl h25 ?_
              refine seq_skip rfl rfl h25 ?_
              refine seq_skip rfl rfl h25 ?_
              refine seq_g0 rfl rfl h19 (stp_pick_t rfl (bTT h34) rfl) ?_
              refine seq_g0 rfl rfl h19 (stp_move (.dat _) rfl) ?_
              refine seq_skip rfl rfl rfl ?_
              refine seq_skip rfl rfl rfl ?_
              refine seq_skip rfl rfl rfl ?_
              refine seq_skip rfl rfl rfl ?_
              refine seq_g0 rfl rfl h19 (stp_pick_t rfl rfl rfl) ?_
              refine seq_run0 (stp_pick_t rfl (bTT h20) rfl) ?_
              exact ⟨true, H, ⟨rfl, rfl, rfl, rfl, rfl, trivial⟩, trivial⟩
          · have h35 := un2 h19
            replace H := iff_ h35 H
            refine seq_skip rfl rfl h19 ?_
            refine seq_skip rfl rfl h19 ?_
            refine seq_skip rfl rfl h19 ?_
            refine seq_skip rfl rfl h19 ?_
            refine seq_skip rfl rfl h19 ?_
            refine seq_skipU rfl rfl ?_
            refine seq_skipU rfl rfl ?_
            refine seq_skipU rfl rfl ?_
            refine seq_skipU rfl rfl ?_
            refine seq_skip rfl rfl h19 ?_
            refine seq_skip rfl rfl h19 ?_
            refine seq_skipU rfl rfl ?_
            refine seq_skipU rfl rfl ?_
            refine seq_skipU rfl rfl ?_
            refine seq_skipU rfl rfl ?_
            refine seq_skip rfl rfl h19 ?_
            refine seq_run0 (stp_pick_f rfl (bFF h35) rfl) ?_
            exact ⟨false, H, ⟨rfl, rfl, rfl, rfl, rfl, trivial⟩, trivial⟩
        · have h36 := un2 h15
          replace H := iff_ h36 H
          refine seq_skip rfl rfl h15 ?_
          refine seq_skip rfl rfl h15 ?_
          refine seq_skip rfl rfl h15 ?_
          refine seq_run0 (stp_pick_f rfl (bFF h36) rfl) ?_
          refine seq_run0 (stp_move (.dat _) rfl) ?_
          refine seq_skip rfl rfl rfl ?_
          refine seq_skip rfl rfl rfl ?_
          refine seq_skip rfl rfl rfl ?_
          refine seq_skip rfl rfl rfl ?_
          refine seq_skip rfl rfl rfl ?_
          refine seq_skipU rfl rfl ?_
          refine seq_skipU rfl rfl ?_
          refine seq_skipU rfl rfl ?_
          refine seq_skipU rfl rfl ?_
          refine seq_skip rfl rfl rfl ?_
          refine seq_skip rfl rfl rfl ?_
          refine seq_skipU rfl rfl ?_
          refine seq_skipU rfl rfl ?_
          refine seq_skipU rfl rfl ?_
          refine seq_skipU rfl rfl ?_
          refine seq_skip rfl rfl rfl ?_
          refine seq_run0 (stp_pick_f rfl rfl rfl) ?_
          exact ⟨false, H, ⟨rfl, rfl, rfl, rfl, rfl, trivial⟩, trivial⟩
      · rintro v37 H
        replace H : internal_strconv_underscoreOK_J4 v14 v37 = some r := H
        unfold internal_strconv_underscoreOK_J4 at H
        refine awp_cond _ rfl (fun h38 => ?_) (fun h38 => ?_)
        · replace H := ift h38 H
          refine awp_seq ?_
          refine awp_plain hN rfl ?_
          refine seq_run0 (stp_assign (.dat _) rfl) ?_
          refine awp_seq ?_
          refine awp_plain hN rfl ?_
          refine seq_run0 (stp_assign (.dat _) rfl) ?_
          refine awp_plain hN rfl ?_
          refine seq_run0 (stp_move (.dat _) rfl) ?_
          obtain ⟨x39, h40, H⟩ := bnd H
          refine seq_run0 (t_byte tyU9 rfl rfl h40) ?_
          obtain ⟨r41, h42, H⟩ := bnd H
          refine seq_run0 (stp_call (k_internal_strconv_lower (x39.toNat : Int) r41 h42) ⟨.inl rfl, trivial⟩) ?_
          refine seq_run0 (stp_eql rfl rfl) ?_
          refine seq_run0 (stp_assign (.dat _) rfl) ?_
          exact ⟨(48, 2, decide (r41 = 120)), H, ⟨rfl, rfl, rfl, rfl, trivial⟩, trivial⟩
        · replace H := iff_ h38 H
          refine awp_skip ?_
          exact ⟨(94, 0, false), H, ⟨rfl, rfl, rfl, rfl, trivial⟩, trivial⟩
    · rintro ⟨v43, v44, v45⟩ H
      replace H : internal_strconv_underscoreOK_J3 v14 v43 v44 v45 = some r := H
      unfold internal_strconv_underscoreOK_J3 at H
      refine awp_joinE (ι := Int) (fun i => [(3, .dat (vval (.int .i32 i)))]) (fun i => []) (fun i => internal_strconv_underscoreOK_J5 i = some r) (fun i => rfl) ?_ ?_
      · skip
        refine awp_block ?_
        refine awp_iter (fun (s : Int × Int) => [(0, .dat (vstr v14)), (3, .dat (vval (.int .i32 s.1))), (4, .dat (vint s.2)), (5, .dat (vbool v45))]) (fun (s : Int × Int) => []) (v43, v44) H ⟨rfl, rfl, rfl, rfl, trivial⟩ trivial (fun _ => rfl) ?_
        rintro ⟨v46, v47⟩ q48 H hq48
        replace H : internal_strconv_underscoreOK_L6 v14 v45 v46 v47 = some q48 := H
        unfold internal_strconv_underscoreOK_L6 at H
        refine awp_seq ?_
        refine awp_seq ?_
        refine awp_plain hN rfl ?_
        refine seq_run0 (stp_move (.dat _) rfl) ?_
        refine seq_run0 (stp_move (.dat _) rfl) ?_
        refine seq_run0 (stp_len_str tyU9 rfl) ?_
        refine seq_run0 (stp_lss rfl rfl) ?_
        refine awp_cond _ rfl (fun h49 => ?_) (fun h49 => ?_)
        · replace H := ift h49 H
          refine awp_skip ?_
          refine awp_joinE (ι := Int) (fun i => [(0, .dat (vstr v14)), (3, .dat (vval (.int .i32 i))), (4, .dat (vint v47)), (5, .dat (vbool v45))]) (fun i => []) (fun i => internal_strconv_underscoreOK_J7 v47 i = some q48) (fun i => rfl) ?_ ?_
          · skip
            refine awp_block ?_
            refine awp_seq ?_
            refine awp_joinE (ι := Bool) (fun i => [(0, .dat (vstr v14)), (3, .dat (vval (.int .i32 v46))), (4, .dat (vint v47)), (5, .dat (vbool v45)), (83, .dat (vbool i))]) (fun i => []) (fun i => internal_strconv_underscoreOK_J8 v14 v46 v47 i = some q48) (fun i => rfl) ?_ ?_
            · skip
              refine awp_plain hN rfl ?_
              refine seq_run0 (stp_move (.dat _) rfl) ?_
              refine seq_run0 (stp_move (.dat _) rfl) ?_
              obtain ⟨x50, h51, H⟩ := bnd H
              refine seq_run0 (t_byteI tyU9 rfl rfl h51) ?_
              refine seq_run0 (stp_leq rfl rfl) ?_
              refine seq_run0 (stp_move (.dat _) rfl) ?_
              refine seq_split (j := 4) rfl rfl (fun h52 => ?_) (fun h52 => ?_) rfl
              · have h53 := un1 h52
                replace H := ift h53 H
                refine seq_g0 rfl rfl h52 (stp_move (.dat _) rfl) ?_
                refine seq_g0 rfl rfl h52 (stp_move (.dat _) rfl) ?_
                refine seq_g0 rfl rfl h52 (t_byteI tyU9 rfl rfl h51) ?_
                refine seq_g0 rfl rfl h52 (stp_leq rfl rfl) ?_
                refine seq_run0 (stp_pick_t rfl (bTT h53) rfl) ?_
                refine seq_run0 (stp_move (.dat _) rfl) ?_
                refine seq_split (j := 10) rfl rfl (fun h54 => ?_) (fun h54 => ?_) rfl
                · have h55 := un3 h54
                  replace H := iff_ h55 H
                  refine seq_g0 rfl rfl h54 (stp_move (.dat _) rfl) ?_
                  refine seq_g0 rfl rfl h54 (stp_move (.dat _) rfl) ?_
                  refine seq_split (j := 12) rfl rfl (fun h56 => ?_) (fun h56 => ?_) rfl
                  · have h57 := un1 h56
                    replace H := ift h57 H
                    refine seq_g0 rfl rfl h56 (stp_move (.dat _) rfl) ?_
                    refine seq_g0 rfl rfl h56 (stp_move (.dat _) rfl) ?_
                    refine seq_g0 rfl rfl h56 (t_byteI tyU9 rfl rfl h51) ?_
                    obtain ⟨r58, h59, H⟩ := bnd H
                    refine seq_g0 rfl rfl h56 (stp_call (k_internal_strconv_lower (x50.toNat : Int) r58 h59) ⟨.inl rfl, trivial⟩) ?_
                    refine seq_g0 rfl rfl h56 (stp_leq rfl rfl) ?_
                    refine seq_g0 rfl rfl h54 (stp_pick_t rfl (bTT h57) rfl) ?_
                    refine seq_g0 rfl rfl h54 (stp_move (.dat _) rfl) ?_
                    refine seq_split (j := 19) rfl rfl (fun h60 => ?_) (fun h60 => ?_) rfl
                    · have h61 := un1 h60
                      replace H := ift h61 H
                      refine seq_g0 rfl rfl h60 (stp_move (.dat _) rfl) ?_
                      refine seq_g0 rfl rfl h60 (stp_move (.dat _) rfl) ?_
                      refine seq_g0 rfl rfl h60 (t_byteI tyU9 rfl rfl h51) ?_
                      obtain ⟨r62, h63, H⟩ := bnd H
                      refine seq_g0 rfl rfl h60 (stp_call (k_internal_strconv_lower (x50.toNat : Int) r62 h63) ⟨.inl rfl, trivial⟩) ?_
                      refine seq_g0 rfl rfl h60 (stp_leq rfl rfl) ?_
                      refine seq_g0 rfl rfl h54 (stp_pick_t rfl (bTT h61) rfl) ?_
                      refine seq_run0 (stp_pick_f rfl (bFF h55) rfl) ?_
                      exact ⟨decide (r62 ≤ 102), H, ⟨rfl, rfl, rfl, rfl, rfl, trivial⟩, trivial⟩
                    · have h64 := un2 h60
                      replace H := iff_ h64 H
                      refine seq_skip rfl rfl h60 ?_
                      refine seq_skip rfl rfl h60 ?_
                      refine seq_skip rfl rfl h60 ?_
                      refine seq_skip rfl rfl h60 ?_
                      refine seq_skip rfl rfl h60 ?_
                      refine seq_g0 rfl rfl h54 (stp_pick_f rfl (bFF h64) rfl) ?_
                      refine seq_run0 (stp_pick_f rfl (bFF h55) rfl) ?_
                      exact ⟨false, H, ⟨rfl, rfl, rfl, rfl, rfl, trivial⟩, trivial⟩
                  · have h65 := un2 h56
                    replace H := iff_ h65 H
                    refine seq_skip rfl rfl h56 ?_
                    refine seq_skip rfl rfl h56 ?_
                    refine seq_skip rfl rfl h56 ?_
                    refine seq_skip rfl rfl h56 ?_
                    refine seq_skip rfl rfl h56 ?_
                    refine seq_g0 rfl rfl h54 (stp_pick_f rfl (bFF h65) rfl) ?_
                    refine seq_g0 rfl rfl h54 (stp_move (.dat _) rfl) ?_
                    refine seq_skip rfl rfl rfl ?_
                    refine seq_skip rfl rfl rfl ?_
                    refine seq_skip rfl rfl rfl ?_
                    refine seq_skip rfl rfl rfl ?_
                    refine seq_skip rfl rfl rfl ?_
                    refine seq_g0 rfl rfl h54 (stp_pick_f rfl rfl rfl) ?_
                    refine seq_run0 (stp_pick_f rfl (bFF h55) rfl) ?_
                    exact ⟨false, H, ⟨rfl, rfl, rfl, rfl, rfl, trivial⟩, trivial⟩
                · have h66 := un4 h54
                  replace H := ift h66 H
                  refine seq_skip rfl rfl h54 ?_
                  refine seq_skip rfl rfl h54 ?_
                  refine seq_skipU rfl rfl ?_
                  refine seq_skipU rfl rfl ?_
                  refine seq_skipU rfl rfl ?_
                  refine seq_skipU rfl rfl ?_
                  refine seq_skipU rfl rfl ?_
                  refine seq_skip rfl rfl h54 ?_
                  refine seq_skip rfl rfl h54 ?_
                  refine seq_skipU rfl rfl ?_
                  refine seq_skipU rfl rfl ?_
                  refine seq_skipU rfl rfl ?_
                  refine seq_skipU rfl rfl ?_
                  refine seq_skipU rfl rfl ?_
                  refine seq_skip rfl rfl h54 ?_
                  refine seq_run0 (stp_pick_t rfl (bTT h66) rfl) ?_
                  exact ⟨true, H, ⟨rfl, rfl, rfl, rfl, rfl, trivial⟩, trivial⟩
              · have h67 := un2 h52
                replace H := iff_ h67 H
                refine seq_skip rfl rfl h52 ?_
                refine seq_skip rfl rfl h52 ?_
                refine seq_skip rfl rfl h52 ?_
                refine seq_skip rfl rfl h52 ?_
                refine seq_run0 (stp_pick_f rfl (bFF h67) rfl) ?_
                refine seq_run0 (stp_move (.dat _) rfl) ?_
                refine seq_g0 rfl rfl rfl (stp_move (.dat _) rfl) ?_
                refine seq_g0 rfl rfl rfl (stp_move (.dat _) rfl) ?_
                refine seq_split (j := 12) rfl rfl (fun h68 => ?_) (fun h68 => ?_) rfl
                · have h69 := un1 h68
                  replace H := ift h69 H
                  refine seq_g0 rfl rfl h68 (stp_move (.dat _) rfl) ?_
                  refine seq_g0 rfl rfl h68 (stp_move (.dat _) rfl) ?_
                  refine seq_g0 rfl rfl h68 (t_byteI tyU9 rfl rfl h51) ?_
                  obtain ⟨r70, h71, H⟩ := bnd H
                  refine seq_g0 rfl rfl h68 (stp_call (k_internal_strconv_lower (x50.toNat : Int) r70 h71) ⟨.inl rfl, trivial⟩) ?_
                  refine seq_g0 rfl rfl h68 (stp_leq rfl rfl) ?_
                  refine seq_g0 rfl rfl rfl (stp_pick_t rfl (bTT h69) rfl) ?_
                  refine seq_g0 rfl rfl rfl (stp_move (.dat _) rfl) ?_
                  refine seq_split (j := 19) rfl rfl (fun h72 => ?_) (fun h72 => ?_) rfl
                  · have h73 := un1 h72
                    replace H := ift h73 H
                    refine seq_g0 rfl rfl h72 (stp_move (.dat _) rfl) ?_
                    refine seq_g0 rfl rfl h72 (stp_move (.dat _) rfl) ?_
                    refine seq_g0 rfl rfl h72 (t_byteI tyU9 rfl rfl h51) ?_
                    obtain ⟨r74, h75, H⟩ := bnd H
                    refine seq_g0 rfl rfl h72 (stp_call (k_internal_strconv_lower (x50.toNat : Int) r74 h75) ⟨.inl rfl, trivial⟩) ?_
                    refine seq_g0 rfl rfl h72 (stp_leq rfl rfl) ?_
                    refine seq_g0 rfl rfl rfl (stp_pick_t rfl (bTT h73) rfl) ?_
                    refine seq_run0 (stp_pick_f rfl rfl rfl) ?_
                    exact ⟨decide (r74 ≤ 102), H, ⟨rfl, rfl, rfl, rfl, rfl, trivial⟩, trivial⟩
                  · have h76 := un2 h72
                    replace H := iff_ h76 H
                    refine seq_skip rfl rfl h72 ?_
                    refine seq_skip rfl rfl h72 ?_
                    refine seq_skip rfl rfl h72 ?_
                    refine seq_skip rfl rfl h72 ?_
                    refine seq_skip rfl rfl h72 ?_
                    refine seq_g0 rfl rfl rfl (stp_pick_f rfl (bFF h76) rfl) ?_
                    refine seq_run0 (stp_pick_f rfl rfl rfl) ?_
                    exact ⟨false, H, ⟨rfl, rfl, rfl, rfl, rfl, trivial⟩, trivial⟩
                · have h77 := un2 h68
                  replace H := iff_ h77 H
                  refine seq_skip rfl rfl h68 ?_
                  refine seq_skip rfl rfl h68 ?_
                  refine seq_skip rfl rfl h68 ?_
                  refine seq_skip rfl rfl h68 ?_
                  refine seq_skip rfl rfl h68 ?_
                  refine seq_g0 rfl rfl rfl (stp_pick_f rfl (bFF h77) rfl) ?_
                  refine seq_g0 rfl rfl rfl (stp_move (.dat _) rfl) ?_
                  refine seq_skip rfl rfl rfl ?_
                  refine seq_skip rfl rfl rfl ?_
                  refine seq_skip rfl rfl rfl ?_
                  refine seq_skip rfl rfl rfl ?_
                  refine seq_skip rfl rfl rfl ?_
                  refine seq_g0 rfl rfl rfl (stp_pick_f rfl rfl rfl) ?_
                  refine seq_run0 (stp_pick_f rfl rfl rfl) ?_
                  exact ⟨false, H, ⟨rfl, rfl, rfl, rfl, rfl, trivial⟩, trivial⟩
            · rintro v78 H
              replace H : internal_strconv_underscoreOK_J8 v14 v46 v47 v78 = some q48 := H
              unfold internal_strconv_underscoreOK_J8 at H
              refine awp_cond _ rfl (fun h79 => ?_) (fun h79 => ?_)
              · replace H := ift h79 H
                refine awp_seq ?_
                refine awp_plain hN rfl ?_
                refine seq_run0 (stp_assign (.dat _) rfl) ?_
                refine awp_exit ?_
                exact ⟨48, H, ⟨rfl, rfl, rfl, rfl, trivial⟩, trivial⟩
              · replace H := iff_ h79 H
                refine awp_skip ?_
                refine awp_seq ?_
                refine awp_seq ?_
                refine awp_plain hN rfl ?_
                refine seq_run0 (stp_move (.dat _) rfl) ?_
                refine seq_run0 (stp_move (.dat _) rfl) ?_
                obtain ⟨x80, h81, H⟩ := bnd H
                refine seq_run0 (t_byteI tyU9 rfl rfl h81) ?_
                refine seq_run0 (stp_eql rfl rfl) ?_
                refine awp_cond _ rfl (fun h82 => ?_) (fun h82 => ?_)
                · replace H := ift h82 H
                  refine awp_seq ?_
                  refine awp_seq ?_
                  refine awp_plain hN rfl ?_
                  refine seq_run0 (stp_move (.dat _) rfl) ?_
                  refine seq_run0 (stp_neq rfl rfl) ?_
                  refine awp_cond _ rfl (fun h83 => ?_) (fun h83 => ?_)
                  · replace H := ift h83 H
                    refine awp_seq ?_
                    refine awp_plain hN rfl ?_
                    refine seq_run0 (stp_assign (.dat _) rfl) ?_
                    refine awp_ret ?_
                    replace H := retl H hq48
                    cases H
                    exact ⟨trivial, .inl rfl, trivial⟩
                  · replace H := iff_ h83 H
                    refine awp_skip ?_
                    refine awp_seq ?_
                    refine awp_plain hN rfl ?_
                    refine seq_run0 (stp_assign (.dat _) rfl) ?_
                    refine awp_exit ?_
                    exact ⟨95, H, ⟨rfl, rfl, rfl, rfl, trivial⟩, trivial⟩
                · replace H := iff_ h82 H
                  refine awp_skip ?_
                  refine awp_seq ?_
                  refine awp_seq ?_
                  refine awp_plain hN rfl ?_
                  refine seq_run0 (stp_move (.dat _) rfl) ?_
                  refine seq_run0 (stp_eql rfl rfl) ?_
                  refine awp_cond _ rfl (fun h84 => ?_) (fun h84 => ?_)
                  · replace H := ift h84 H
                    refine awp_seq ?_
                    refine awp_plain hN rfl ?_
                    refine seq_run0 (stp_assign (.dat _) rfl) ?_
                    refine awp_ret ?_
                    replace H := retl H hq48
                    cases H
                    exact ⟨trivial, .inl rfl, trivial⟩
                  · replace H := iff_ h84 H
                    refine awp_skip ?_
                    refine awp_plain hN rfl ?_
                    refine seq_run0 (stp_assign (.dat _) rfl) ?_
                    exact ⟨33, H, ⟨rfl, rfl, rfl, rfl, trivial⟩, trivial⟩
          · rintro v85 H
            replace H : internal_strconv_underscoreOK_J7 v47 v85 = some q48 := H
            unfold internal_strconv_underscoreOK_J7 at H
            refine awp_plain hN rfl ?_
            refine seq_run0 (stp_move (.dat _) rfl) ?_
            refine seq_run0 (stp_wrap _ rfl rfl (.inl ⟨rfl, rfl⟩)) ?_
            refine seq_run0 (stp_assign (.dat _) rfl) ?_
            exact ⟨_, backl H, ⟨rfl, rfl, rfl, rfl, trivial⟩, trivial⟩
        · replace H := iff_ h49 H
          refine awp_exit ?_
          replace H := outl H hq48
          exact ⟨v46, H, ⟨rfl, trivial⟩, trivial⟩
      · rintro v86 H
        replace H : internal_strconv_underscoreOK_J5 v86 = some r := H
        unfold internal_strconv_underscoreOK_J5 at H
        refine awp_seq ?_
        refine awp_plain hN rfl ?_
        refine seq_run0 (stp_move (.dat _) rfl) ?_
        refine seq_run0 (stp_neq rfl rfl) ?_
        refine seq_run0 (stp_assign (.dat _) rfl) ?_
        refine awp_ret ?_
        cases H
        exact ⟨trivial, .inl rfl, trivial⟩
end Go.Proofs.YtbicifgfibafmaaGreatDoor
