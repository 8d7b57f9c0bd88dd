/- Walks along the models. Printed by a program. -/
import Derived.Test.YtbejggfkfaibeaaGreatDoorYhw1
namespace Go.Proofs.YtbejggfkfaibeaaGreatDoor
open Go.RowKit
set_option linter.unusedVariables false
set_option maxRecDepth 20000
theorem k_internal_strconv_ParseUint (v1 : Bs) (v2 : Int) (v3 : Int) (r : (Int × Int)) (H : m_internal_strconv_ParseUint v1 v2 v3 = some r) : Fn Tryz.prog 208 [vstr v1, vint v2, vint v3] (resOf [vval (.int .u64 r.1), verr r.2]) := by
  refine ⟨by kernel_rfl, pure_of (us := [vval (.int .u64 r.1), verr r.2]) Tryz.func208 rfl rfl rfl rfl fun X hN => ?_⟩
  unfold m_internal_strconv_ParseUint at H
  refine awp_seq ?_
  refine awp_plain hN rfl ?_
  refine seq_run0 (stp_assign (.dat _) rfl) ?_
  refine seq_run0 (stp_assign (.dat _) rfl) ?_
  refine awp_seq ?_
  refine awp_seq ?_
  refine awp_plain hN rfl ?_
  refine seq_run0 (stp_move (.dat _) rfl) ?_
  refine seq_run0 (stp_seql rfl rfl) ?_
  refine awp_cond _ rfl (fun h4 => ?_) (fun h4 => ?_)
  · replace H := ift h4 H
    refine awp_seq ?_
    refine awp_plain hN rfl ?_
    refine seq_run0 (stp_dat (u' := verr 2) (stp_mkErr (show Tryz.prog.underlying 218 = some (.int .i64) from by kernel_rfl) rfl) rfl) ?_
    refine seq_run0 (stp_assign (.dat _) rfl) ?_
    refine seq_run0 (stp_assign (.dat _) rfl) ?_
    refine awp_ret ?_
    cases H
    exact ⟨trivial, .inl rfl, .inl rfl, trivial⟩
  · replace H := iff_ h4 H
    refine awp_skip ?_
    refine awp_seq ?_
    refine awp_plain hN rfl ?_
    refine seq_run0 (stp_move (.dat _) rfl) ?_
    refine seq_run0 (stp_eql rfl rfl) ?_
    refine seq_run0 (stp_assign (.dat _) rfl) ?_
    refine awp_seq ?_
    refine awp_plain hN rfl ?_
    refine seq_run0 (stp_move (.dat _) rfl) ?_
    refine seq_run0 (stp_assign (.dat _) rfl) ?_
    refine awp_joinE (ι := Bs × Int) (fun i => [(0, .dat (vstr i.1)), (1, .dat (vint i.2)), (2, .dat (vint v3)), (8, .dat (vbool (decide (v2 = 0)))), (9, .dat (vstr v1))]) (fun i => []) (fun i => internal_strconv_ParseUint_J1 v1 v2 v3 i.1 i.2 = some r) (fun i => rfl) ?_ ?_
    · skip
      refine awp_block ?_
      refine awp_seq ?_
      refine awp_plain hN rfl ?_
      refine seq_run0 (stp_move (.dat _) rfl) ?_
      refine seq_run0 (stp_leq rfl rfl) ?_
      refine seq_run0 (stp_move (.dat _) rfl) ?_
      refine seq_aT rfl rfl (fun hc => stp_move (.dat _) rfl) ?_
      refine seq_aT rfl rfl (fun hc => stp_leq (cnd (c := (decide (2 ≤ v2))) hc) rfl) ?_
      refine seq_run0 (stp_pick_and rfl (fun hb => (cnd (c := (decide (2 ≤ v2))) hb)) rfl) ?_
      refine seq_run0 (stp_assign (.dat _) rfl) ?_
      refine awp_cond _ rfl (fun h5 => ?_) (fun h5 => ?_)
      · replace H := ift h5 H
        refine awp_skip ?_
        exact ⟨(v1, v2), H, ⟨rfl, rfl, rfl, rfl, rfl, trivial⟩, trivial⟩
      · replace H := iff_ h5 H
        refine awp_seq ?_
        refine awp_plain hN rfl ?_
        refine seq_run0 (stp_move (.dat _) rfl) ?_
        refine seq_run0 (stp_eql rfl rfl) ?_
        refine seq_run0 (stp_assign (.dat _) rfl) ?_
        refine awp_cond _ rfl (fun h6 => ?_) (fun h6 => ?_)
        · replace H := ift h6 H
          refine awp_seq ?_
          refine awp_plain hN rfl ?_
          refine seq_run0 (stp_assign (.dat _) rfl) ?_
          refine awp_seq ?_
          refine awp_plain hN rfl ?_
          refine seq_run0 (stp_move (.dat _) rfl) ?_
          obtain ⟨x7, h8, H⟩ := bnd H
          refine seq_run0 (t_byte tyU9 rfl rfl h8) ?_
          refine seq_run0 (stp_eql rfl rfl) ?_
          refine awp_cond _ rfl (fun h9 => ?_) (fun h9 => ?_)
          · replace H := ift h9 H
            refine awp_block ?_
            refine awp_joinE (ι := Bool) (fun i => [(0, .dat (vstr v1)), (2, .dat (vint v3)), (8, .dat (vbool (decide (v2 = 0)))), (9, .dat (vstr v1)), (40, .dat (vbool i))]) (fun i => []) (fun i => internal_strconv_ParseUint_J2 v1 v2 v3 i = some r) (fun i => rfl) ?_ ?_
            · skip
              refine awp_plain hN rfl ?_
              refine seq_run0 (stp_move (.dat _) rfl) ?_
              refine seq_run0 (stp_len_str tyU9 rfl) ?_
              refine seq_run0 (stp_geq rfl rfl) ?_
              refine seq_run0 (stp_move (.dat _) rfl) ?_
              refine seq_split (j := 3) rfl rfl (fun h10 => ?_) (fun h10 => ?_) rfl
              · have h11 := un1 h10
                replace H := ift h11 H
                refine seq_g0 rfl rfl h10 (stp_move (.dat _) rfl) ?_
                obtain ⟨x12, h13, H⟩ := bnd H
                refine seq_g0 rfl rfl h10 (t_byte tyU9 rfl rfl h13) ?_
                obtain ⟨r14, h15, H⟩ := bnd H
                refine seq_g0 rfl rfl h10 (stp_call (k_internal_strconv_lower (x12.toNat : Int) r14 h15) ⟨.inl rfl, trivial⟩) ?_
                refine seq_g0 rfl rfl h10 (stp_eql rfl rfl) ?_
                refine seq_run0 (stp_pick_t rfl (bTT h11) rfl) ?_
                refine seq_run0 (stp_assign (.dat _) rfl) ?_
                exact ⟨decide (r14 = 98), H, ⟨rfl, rfl, rfl, rfl, rfl, trivial⟩, trivial⟩
              · have h16 := un2 h10
                replace H := iff_ h16 H
                refine seq_skip rfl rfl h10 ?_
                refine seq_skip rfl rfl h10 ?_
                refine seq_skip rfl rfl h10 ?_
                refine seq_skip rfl rfl h10 ?_
                refine seq_run0 (stp_pick_f rfl (bFF h16) rfl) ?_
                refine seq_run0 (stp_assign (.dat _) rfl) ?_
                exact ⟨false, H, ⟨rfl, rfl, rfl, rfl, rfl, trivial⟩, trivial⟩
            · rintro v17 H
              replace H : internal_strconv_ParseUint_J2 v1 v2 v3 v17 = some r := H
              unfold internal_strconv_ParseUint_J2 at H
              refine awp_cond _ rfl (fun h18 => ?_) (fun h18 => ?_)
              · replace H := ift h18 H
                refine awp_seq ?_
                refine awp_plain hN rfl ?_
                refine seq_run0 (stp_assign (.dat _) rfl) ?_
                refine awp_plain hN rfl ?_
                refine seq_run0 (stp_move (.dat _) rfl) ?_
                obtain ⟨l19, h20, H⟩ := bnd H
                refine seq_run0 (t_subS tyU9 rfl rfl rfl h20) ?_
                refine seq_run0 (stp_assign (.dat _) rfl) ?_
                exact ⟨(l19, 2), H, ⟨rfl, rfl, rfl, rfl, rfl, trivial⟩, trivial⟩
              · replace H := iff_ h18 H
                refine awp_joinE (ι := Bool) (fun i => [(0, .dat (vstr v1)), (2, .dat (vint v3)), (8, .dat (vbool (decide (v2 = 0)))), (9, .dat (vstr v1)), (52, .dat (vbool i))]) (fun i => []) (fun i => internal_strconv_ParseUint_J3 v1 v2 v3 i = some r) (fun i => rfl) ?_ ?_
                · skip
                  refine awp_plain hN rfl ?_
                  refine seq_run0 (stp_move (.dat _) rfl) ?_
                  refine seq_run0 (stp_len_str tyU9 rfl) ?_
                  refine seq_run0 (stp_geq rfl rfl) ?_
                  refine seq_run0 (stp_move (.dat _) rfl) ?_
                  refine seq_split (j := 3) rfl rfl (fun h21 => ?_) (fun h21 => ?_) rfl
                  · have h22 := un1 h21
                    replace H := ift h22 H
                    refine seq_g0 rfl rfl h21 (stp_move (.dat _) rfl) ?_
                    obtain ⟨x23, h24, H⟩ := bnd H
                    refine seq_g0 rfl rfl h21 (t_byte tyU9 rfl rfl h24) ?_
                    obtain ⟨r25, h26, H⟩ := bnd H
                    refine seq_g0 rfl rfl h21 (stp_call (k_internal_strconv_lower (x23.toNat : Int) r25 h26) ⟨.inl rfl, trivial⟩) ?_
                    refine seq_g0 rfl rfl h21 (stp_eql rfl rfl) ?_
                    refine seq_run0 (stp_pick_t rfl (bTT h22) rfl) ?_
                    refine seq_run0 (stp_assign (.dat _) rfl) ?_
                    exact ⟨decide (r25 = 111), H, ⟨rfl, rfl, rfl, rfl, rfl, trivial⟩, trivial⟩
                  · have h27 := un2 h21
                    replace H := iff_ h27 H
                    refine seq_skip rfl rfl h21 ?_
                    refine seq_skip rfl rfl h21 ?_
                    refine seq_skip rfl rfl h21 ?_
                    refine seq_skip rfl rfl h21 ?_
                    refine seq_run0 (stp_pick_f rfl (bFF h27) rfl) ?_
                    refine seq_run0 (stp_assign (.dat _) rfl) ?_
                    exact ⟨false, H, ⟨rfl, rfl, rfl, rfl, rfl, trivial⟩, trivial⟩
                · rintro v28 H
                  replace H : internal_strconv_ParseUint_J3 v1 v2 v3 v28 = some r := H
                  unfold internal_strconv_ParseUint_J3 at H
                  refine awp_cond _ rfl (fun h29 => ?_) (fun h29 => ?_)
                  · replace H := ift h29 H
                    refine awp_seq ?_
                    refine awp_plain hN rfl ?_
                    refine seq_run0 (stp_assign (.dat _) rfl) ?_
                    refine awp_plain hN rfl ?_
                    refine seq_run0 (stp_move (.dat _) rfl) ?_
                    obtain ⟨l30, h31, H⟩ := bnd H
                    refine seq_run0 (t_subS tyU9 rfl rfl rfl h31) ?_
                    refine seq_run0 (stp_assign (.dat _) rfl) ?_
                    exact ⟨(l30, 8), H, ⟨rfl, rfl, rfl, rfl, rfl, trivial⟩, trivial⟩
                  · replace H := iff_ h29 H
                    refine awp_joinE (ι := Bool) (fun i => [(0, .dat (vstr v1)), (2, .dat (vint v3)), (8, .dat (vbool (decide (v2 = 0)))), (9, .dat (vstr v1)), (64, .dat (vbool i))]) (fun i => []) (fun i => internal_strconv_ParseUint_J4 v1 v2 v3 i = some r) (fun i => rfl) ?_ ?_
                    · skip
                      refine awp_plain hN rfl ?_
                      refine seq_run0 (stp_move (.dat _) rfl) ?_
                      refine seq_run0 (stp_len_str tyU9 rfl) ?_
                      refine seq_run0 (stp_geq rfl rfl) ?_
                      refine seq_run0 (stp_move (.dat _) rfl) ?_
                      refine seq_split (j := 3) rfl rfl (fun h32 => ?_) (fun h32 => ?_) rfl
                      · have h33 := un1 h32
                        replace H := ift h33 H
                        refine seq_g0 rfl rfl h32 (stp_move (.dat _) rfl) ?_
                        obtain ⟨x34, h35, H⟩ := bnd H
                        refine seq_g0 rfl rfl h32 (t_byte tyU9 rfl rfl h35) ?_
                        obtain ⟨r36, h37, H⟩ := bnd H
                        refine seq_g0 rfl rfl h32 (stp_call (k_internal_strconv_lower (x34.toNat : Int) r36 h37) ⟨.inl rfl, trivial⟩) ?_
                        refine seq_g0 rfl rfl h32 (stp_eql rfl rfl) ?_
                        refine seq_run0 (stp_pick_t rfl (bTT h33) rfl) ?_
                        refine seq_run0 (stp_assign (.dat _) rfl) ?_
                        exact ⟨decide (r36 = 120), H, ⟨rfl, rfl, rfl, rfl, rfl, trivial⟩, trivial⟩
                      · have h38 := un2 h32
                        replace H := iff_ h38 H
                        refine seq_skip rfl rfl h32 ?_
                        refine seq_skip rfl rfl h32 ?_
                        refine seq_skip rfl rfl h32 ?_
                        refine seq_skip rfl rfl h32 ?_
                        refine seq_run0 (stp_pick_f rfl (bFF h38) rfl) ?_
                        refine seq_run0 (stp_assign (.dat _) rfl) ?_
                        exact ⟨false, H, ⟨rfl, rfl, rfl, rfl, rfl, trivial⟩, trivial⟩
                    · rintro v39 H
                      replace H : internal_strconv_ParseUint_J4 v1 v2 v3 v39 = some r := H
                      unfold internal_strconv_ParseUint_J4 at H
                      refine awp_cond _ rfl (fun h40 => ?_) (fun h40 => ?_)
                      · replace H := ift h40 H
                        refine awp_seq ?_
                        refine awp_plain hN rfl ?_
                        refine seq_run0 (stp_assign (.dat _) rfl) ?_
                        refine awp_plain hN rfl ?_
                        refine seq_run0 (stp_move (.dat _) rfl) ?_
                        obtain ⟨l41, h42, H⟩ := bnd H
                        refine seq_run0 (t_subS tyU9 rfl rfl rfl h42) ?_
                        refine seq_run0 (stp_assign (.dat _) rfl) ?_
                        exact ⟨(l41, 16), H, ⟨rfl, rfl, rfl, rfl, rfl, trivial⟩, trivial⟩
                      · replace H := iff_ h40 H
                        refine awp_seq ?_
                        refine awp_plain hN rfl ?_
                        refine seq_run0 (stp_assign (.dat _) rfl) ?_
                        refine awp_plain hN rfl ?_
                        refine seq_run0 (stp_move (.dat _) rfl) ?_
                        obtain ⟨l43, h44, H⟩ := bnd H
                        refine seq_run0 (t_subS tyU9 rfl rfl rfl h44) ?_
                        refine seq_run0 (stp_assign (.dat _) rfl) ?_
                        exact ⟨(l43, 8), H, ⟨rfl, rfl, rfl, rfl, rfl, trivial⟩, trivial⟩
          · replace H := iff_ h9 H
            refine awp_skip ?_
            exact ⟨(v1, 10), H, ⟨rfl, rfl, rfl, rfl, rfl, trivial⟩, trivial⟩
        · replace H := iff_ h6 H
          refine awp_seq ?_
          refine awp_plain hN rfl ?_
          refine seq_run0 (stp_dat (u' := verr 3) (stp_mkErr (show Tryz.prog.underlying 218 = some (.int .i64) from by kernel_rfl) rfl) rfl) ?_
          refine seq_run0 (stp_assign (.dat _) rfl) ?_
          refine seq_run0 (stp_assign (.dat _) rfl) ?_
          refine awp_ret ?_
          cases H
          exact ⟨trivial, .inl rfl, .inl rfl, trivial⟩
    · rintro ⟨v45, v46⟩ H
      replace H : internal_strconv_ParseUint_J1 v1 v2 v3 v45 v46 = some r := H
      unfold internal_strconv_ParseUint_J1 at H
      refine awp_joinE (ι := Int) (fun i => [(0, .dat (vstr v45)), (1, .dat (vint v46)), (2, .dat (vint i)), (8, .dat (vbool (decide (v2 = 0)))), (9, .dat (vstr v1))]) (fun i => []) (fun i => internal_strconv_ParseUint_J5 v1 v2 v45 v46 i = some r) (fun i => rfl) ?_ ?_
      · skip
        refine awp_seq ?_
        refine awp_plain hN rfl ?_
        refine seq_run0 (stp_move (.dat _) rfl) ?_
        refine seq_run0 (stp_eql rfl rfl) ?_
        refine awp_cond _ rfl (fun h47 => ?_) (fun h47 => ?_)
        · replace H := ift h47 H
          refine awp_plain hN rfl ?_
          refine seq_run0 (stp_assign (.dat _) rfl) ?_
          exact ⟨64, H, ⟨rfl, rfl, rfl, rfl, rfl, trivial⟩, trivial⟩
        · replace H := iff_ h47 H
          refine awp_seq ?_
          refine awp_plain hN rfl ?_
          refine seq_run0 (stp_move (.dat _) rfl) ?_
          refine seq_run0 (stp_lss rfl rfl) ?_
          refine seq_run0 (stp_move (.dat _) rfl) ?_
          refine seq_aF rfl rfl (fun hc => stp_move (.dat _) rfl) ?_
          refine seq_aF rfl rfl (fun hc => stp_gtr (cnd (c := (!(decide (v3 < 0)))) hc) rfl) ?_
          refine seq_run0 (stp_pick_or rfl rfl (fun hb => (cnd (c := (!(decide (v3 < 0)))) (notI hb)))) ?_
          refine awp_cond _ rfl (fun h48 => ?_) (fun h48 => ?_)
          · replace H := ift h48 H
            refine awp_seq ?_
            refine awp_plain hN rfl ?_
            refine seq_run0 (stp_dat (u' := verr 4) (stp_mkErr (show Tryz.prog.underlying 218 = some (.int .i64) from by kernel_rfl) rfl) rfl) ?_
            refine seq_run0 (stp_assign (.dat _) rfl) ?_
            refine seq_run0 (stp_assign (.dat _) rfl) ?_
            refine awp_ret ?_
            cases H
            exact ⟨trivial, .inl rfl, .inl rfl, trivial⟩
          · replace H := iff_ h48 H
            refine awp_skip ?_
            exact ⟨v3, H, ⟨rfl, rfl, rfl, rfl, rfl, trivial⟩, trivial⟩
      · rintro v49 H
        replace H : internal_strconv_ParseUint_J5 v1 v2 v45 v46 v49 = some r := H
        unfold internal_strconv_ParseUint_J5 at H
        refine awp_seq ?_
        refine awp_plain hN rfl ?_
        refine seq_run0 (stp_assign (.dat _) rfl) ?_
        refine awp_joinE (ι := Int) (fun i => [(0, .dat (vstr v45)), (1, .dat (vint v46)), (2, .dat (vint v49)), (8, .dat (vbool (decide (v2 = 0)))), (9, .dat (vstr v1)), (10, .dat (vval (.int .u64 i)))]) (fun i => []) (fun i => internal_strconv_ParseUint_J6 v1 v2 v45 v46 v49 i = some r) (fun i => rfl) ?_ ?_
        · skip
          refine awp_seq ?_
          refine awp_plain hN rfl ?_
          refine seq_run0 (stp_move (.dat _) rfl) ?_
          refine awp_block ?_
          refine awp_seq ?_
          refine awp_plain hN rfl ?_
          refine seq_run0 (stp_eql rfl rfl) ?_
          refine seq_run0 (stp_assign (.dat _) rfl) ?_
          refine awp_cond _ rfl (fun h50 => ?_) (fun h50 => ?_)
          · replace H := ift h50 H
            refine awp_plain hN rfl ?_
            refine seq_run0 (stp_assign (.dat _) rfl) ?_
            exact ⟨1844674407370955162, H, ⟨rfl, rfl, rfl, rfl, rfl, rfl, trivial⟩, trivial⟩
          · replace H := iff_ h50 H
            refine awp_seq ?_
            refine awp_plain hN rfl ?_
            refine seq_run0 (stp_eql rfl rfl) ?_
            refine seq_run0 (stp_assign (.dat _) rfl) ?_
            refine awp_cond _ rfl (fun h51 => ?_) (fun h51 => ?_)
            · replace H := ift h51 H
              refine awp_plain hN rfl ?_
              refine seq_run0 (stp_assign (.dat _) rfl) ?_
              exact ⟨1152921504606846976, H, ⟨rfl, rfl, rfl, rfl, rfl, rfl, trivial⟩, trivial⟩
            · replace H := iff_ h51 H
              refine awp_plain hN rfl ?_
              refine seq_run0 (stp_move (.dat _) rfl) ?_
              refine seq_run0 (stp_conv tyU3 tyU166 rfl) ?_
              obtain ⟨h52, H⟩ := gif H
              refine seq_run0 (stp_quoK rfl rfl h52) ?_
              refine seq_run0 (stp_wrap _ rfl rfl (.inl ⟨rfl, rfl⟩)) ?_
              refine seq_run0 (stp_assign (.dat _) rfl) ?_
              exact ⟨IntKind.wrap .u64 ((IntKind.wrap .u64 (Int.tdiv 18446744073709551615 (IntKind.wrap .u64 v46))) + 1), H, ⟨rfl, rfl, rfl, rfl, rfl, rfl, trivial⟩, trivial⟩
        · rintro v53 H
          replace H : internal_strconv_ParseUint_J6 v1 v2 v45 v46 v49 v53 = some r := H
          unfold internal_strconv_ParseUint_J6 at H
          refine awp_seq ?_
          refine awp_plain hN rfl ?_
          refine seq_run0 (stp_move (.dat _) rfl) ?_
          refine seq_run0 (stp_conv tyU3 tyU148 rfl) ?_
          obtain ⟨h54, H⟩ := gif H
          refine seq_run0 (stp_dat (stp_shl rfl rfl h54) rfl) ?_
          refine seq_run0 (stp_wrap _ rfl rfl (.inr (.inl ⟨rfl, rfl⟩))) ?_
          refine seq_run0 (stp_assign (.dat _) rfl) ?_
          refine awp_seq ?_
          refine awp_plain hN rfl ?_
          refine seq_run0 (stp_assign (.dat _) rfl) ?_
          refine awp_seq ?_
          refine awp_plain hN rfl ?_
          refine seq_run0 (stp_assign (.dat _) rfl) ?_
          refine awp_seq ?_
          refine awp_seq ?_
          refine awp_plain hN rfl ?_
          refine seq_run0 (stp_move (.dat _) rfl) ?_
          refine seq_run0 (stp_convS2B (C := C_uint8) tyU9 tyU46 tyU5 (fun _ => rfl) rfl) ?_
          refine seq_run0 (t_len tyU46 rfl) ?_
          refine seq_run0 (stp_move (.dat _) rfl) ?_
          refine awp_block ?_
          obtain ⟨h59, H⟩ := gif H
          refine awp_forL (fun (k57 : Nat) (s : Bool × Int) => [(1, .dat (vint v46)), (8, .dat (vbool (decide (v2 = 0)))), (9, .dat (vstr v1)), (10, .dat (vval (.int .u64 v53))), (11, .dat (vval (.int .u64 (IntKind.wrap .u64 ((shl_ .u64 1 (IntKind.wrap .u64 v49)) - 1))))), (12, .dat (vbool s.1)), (13, .dat (vval (.int .u64 s.2))), (99, .dat (vlst (List.map C_uint8 (numsB v45)))), (100, .dat (vint ((numsB v45).length : Int))), (101, .dat (vint (k57 : Int)))]) (fun (k57 : Nat) (s : Bool × Int) => []) (false, 0) H ⟨rfl, rfl, rfl, rfl, rfl, rfl, rfl, rfl, rfl, rfl, trivial⟩ trivial (fun _ _ => rfl) ?_ ?_
          · rintro ⟨v55, v56⟩ H
            replace H : internal_strconv_ParseUint_E7 v1 v55 v56 = some r := H
            unfold internal_strconv_ParseUint_E7 at H
            refine awp_seq ?_
            refine awp_plain hN rfl ?_
            refine seq_run0 (stp_lss rfl rfl) ?_
            refine awp_seq ?_
            refine awp_cond _ rfl (fun h => (lt_t h).elim) (fun h => ?_)
            refine awp_exit ?_
            refine awp_seq ?_
            refine awp_joinE (ι := Bool) (fun i => [(13, .dat (vval (.int .u64 v56))), (169, .dat (vbool i))]) (fun i => []) (fun i => internal_strconv_ParseUint_J8 v56 i = some r) (fun i => rfl) ?_ ?_
            · skip
              refine awp_plain hN rfl ?_
              refine seq_run0 (stp_move (.dat _) rfl) ?_
              refine seq_run0 (stp_move (.dat _) rfl) ?_
              refine seq_split (j := 1) rfl rfl (fun h61 => ?_) (fun h61 => ?_) rfl
              · have h62 := un1 h61
                replace H := ift h62 H
                refine seq_g0 rfl rfl h61 (stp_move (.dat _) rfl) ?_
                obtain ⟨r63, h64, H⟩ := bnd H
                refine seq_g0 rfl rfl h61 (stp_call (k_internal_strconv_underscoreOK v1 r63 h64) ⟨.inl rfl, trivial⟩) ?_
                refine seq_g0 rfl rfl h61 (stp_not rfl) ?_
                refine seq_run0 (stp_pick_t rfl (bTT h62) rfl) ?_
                exact ⟨!r63, H, ⟨rfl, rfl, trivial⟩, trivial⟩
              · have h65 := un2 h61
                replace H := iff_ h65 H
                refine seq_skip rfl rfl h61 ?_
                refine seq_skip rfl rfl h61 ?_
                refine seq_skip rfl rfl h61 ?_
                refine seq_run0 (stp_pick_f rfl (bFF h65) rfl) ?_
                exact ⟨false, H, ⟨rfl, rfl, trivial⟩, trivial⟩
            · rintro v66 H
              replace H : internal_strconv_ParseUint_J8 v56 v66 = some r := H
              unfold internal_strconv_ParseUint_J8 at H
              refine awp_cond _ rfl (fun h67 => ?_) (fun h67 => ?_)
              · replace H := ift h67 H
                refine awp_seq ?_
                refine awp_plain hN rfl ?_
                refine seq_run0 (stp_dat (u' := verr 2) (stp_mkErr (show Tryz.prog.underlying 218 = some (.int .i64) from by kernel_rfl) rfl) rfl) ?_
                refine seq_run0 (stp_assign (.dat _) rfl) ?_
                refine seq_run0 (stp_assign (.dat _) rfl) ?_
                refine awp_ret ?_
                cases H
                exact ⟨trivial, .inl rfl, .inl rfl, trivial⟩
              · replace H := iff_ h67 H
                refine awp_skip ?_
                refine awp_seq ?_
                refine awp_plain hN rfl ?_
                refine seq_run0 (stp_move (.dat _) rfl) ?_
                refine seq_run0 (stp_assign (.dat _) rfl) ?_
                refine seq_run0 (stp_assign (.dat _) rfl) ?_
                refine awp_ret ?_
                cases H
                exact ⟨trivial, .inl rfl, .inl rfl, trivial⟩
          · rintro k57 x60 ⟨v55, v56⟩ q58 h68 h69 H hq58
            replace H : internal_strconv_ParseUint_L7 v2 v46 v49 v53 k57 x60 v55 v56 = some q58 := H
            unfold internal_strconv_ParseUint_L7 at H
            refine awp_seq ?_
            refine awp_plain hN rfl ?_
            refine seq_run0 (stp_lss rfl rfl) ?_
            refine awp_seq ?_
            refine awp_cond _ rfl (fun h => ?_) (fun h => (lt_f h68 h).elim)
            refine awp_skip ?_
            refine awp_joinE (ι := Bool × Int) (fun i => [(1, .dat (vint v46)), (8, .dat (vbool (decide (v2 = 0)))), (9, .dat (vstr v1)), (10, .dat (vval (.int .u64 v53))), (11, .dat (vval (.int .u64 (IntKind.wrap .u64 ((shl_ .u64 1 (IntKind.wrap .u64 v49)) - 1))))), (12, .dat (vbool i.1)), (13, .dat (vval (.int .u64 i.2))), (99, .dat (vlst (List.map C_uint8 (numsB v45)))), (100, .dat (vint ((numsB v45).length : Int))), (101, .dat (vint (k57 : Int)))]) (fun i => []) (fun i => internal_strconv_ParseUint_J9 i.1 i.2 = some q58) (fun i => rfl) ?_ ?_
            · skip
              refine awp_block ?_
              refine awp_seq ?_
              refine awp_plain hN rfl ?_
              refine seq_run0 (t_idx tyE46 (fun _ => rfl) rfl rfl h69) ?_
              refine seq_run0 (stp_loadE1 tyS5 rfl (map_at h69) rfl) ?_
              refine seq_run0 (stp_assign (.dat _) rfl) ?_
              refine awp_seq ?_
              refine awp_plain hN rfl ?_
              refine seq_run0 (stp_assign (.dat _) rfl) ?_
              refine awp_joinE (ι := Int) (fun i => [(1, .dat (vint v46)), (8, .dat (vbool (decide (v2 = 0)))), (9, .dat (vstr v1)), (10, .dat (vval (.int .u64 v53))), (11, .dat (vval (.int .u64 (IntKind.wrap .u64 ((shl_ .u64 1 (IntKind.wrap .u64 v49)) - 1))))), (12, .dat (vbool v55)), (13, .dat (vval (.int .u64 v56))), (16, .dat (vval (.int .u8 i))), (99, .dat (vlst (List.map C_uint8 (numsB v45)))), (100, .dat (vint ((numsB v45).length : Int))), (101, .dat (vint (k57 : Int)))]) (fun i => []) (fun i => internal_strconv_ParseUint_J10 v46 v49 v53 v55 v56 i = some q58) (fun i => rfl) ?_ ?_
              · skip
                refine awp_block ?_
                refine awp_seq ?_
                refine awp_plain hN rfl ?_
                refine seq_run0 (stp_move (.dat _) rfl) ?_
                refine seq_run0 (stp_eql rfl rfl) ?_
                refine seq_run0 (stp_move (.dat _) rfl) ?_
                refine seq_aT rfl rfl (fun hc => stp_move (.dat _) rfl) ?_
                refine seq_run0 (stp_pick_and rfl (fun hb => (cnd (c := (decide (x60 = 95))) hb)) rfl) ?_
                refine seq_run0 (stp_assign (.dat _) rfl) ?_
                refine awp_cond _ rfl (fun h70 => ?_) (fun h70 => ?_)
                · replace H := ift h70 H
                  refine awp_seq ?_
                  refine awp_plain hN rfl ?_
                  refine seq_run0 (stp_assign (.dat _) rfl) ?_
                  refine awp_exit ?_
                  exact ⟨(true, v56), H, ⟨rfl, rfl, rfl, rfl, rfl, rfl, rfl, rfl, rfl, rfl, trivial⟩, trivial⟩
                · replace H := iff_ h70 H
                  refine awp_seq ?_
                  refine awp_plain hN rfl ?_
                  refine seq_run0 (stp_move (.dat _) rfl) ?_
                  refine seq_run0 (stp_leq rfl rfl) ?_
                  refine seq_run0 (stp_move (.dat _) rfl) ?_
                  refine seq_aT rfl rfl (fun hc => stp_move (.dat _) rfl) ?_
                  refine seq_aT rfl rfl (fun hc => stp_leq (cnd (c := (decide (48 ≤ x60))) hc) rfl) ?_
                  refine seq_run0 (stp_pick_and rfl (fun hb => (cnd (c := (decide (48 ≤ x60))) hb)) rfl) ?_
                  refine seq_run0 (stp_assign (.dat _) rfl) ?_
                  refine awp_cond _ rfl (fun h71 => ?_) (fun h71 => ?_)
                  · replace H := ift h71 H
                    refine awp_plain hN rfl ?_
                    refine seq_run0 (stp_move (.dat _) rfl) ?_
                    refine seq_run0 (stp_wrap _ rfl rfl (.inr (.inl ⟨rfl, rfl⟩))) ?_
                    refine seq_run0 (stp_assign (.dat _) rfl) ?_
                    exact ⟨IntKind.wrap .u8 (x60 - 48), H, ⟨rfl, rfl, rfl, rfl, rfl, rfl, rfl, rfl, rfl, rfl, rfl, trivial⟩, trivial⟩
                  · replace H := iff_ h71 H
                    refine awp_joinE (ι := Bool) (fun i => [(1, .dat (vint v46)), (8, .dat (vbool (decide (v2 = 0)))), (9, .dat (vstr v1)), (10, .dat (vval (.int .u64 v53))), (11, .dat (vval (.int .u64 (IntKind.wrap .u64 ((shl_ .u64 1 (IntKind.wrap .u64 v49)) - 1))))), (12, .dat (vbool v55)), (13, .dat (vval (.int .u64 v56))), (15, .dat (vval (.int .u8 x60))), (99, .dat (vlst (List.map C_uint8 (numsB v45)))), (100, .dat (vint ((numsB v45).length : Int))), (101, .dat (vint (k57 : Int))), (121, .dat (vbool i))]) (fun i => []) (fun i => internal_strconv_ParseUint_J11 v46 v49 v53 v55 v56 x60 i = some q58) (fun i => rfl) ?_ ?_
                    · skip
                      refine awp_plain hN rfl ?_
                      refine seq_run0 (stp_move (.dat _) rfl) ?_
                      obtain ⟨r72, h73, H⟩ := bnd H
                      refine seq_run0 (stp_call (k_internal_strconv_lower x60 r72 h73) ⟨.inl rfl, trivial⟩) ?_
                      refine seq_run0 (stp_leq rfl rfl) ?_
                      refine seq_run0 (stp_move (.dat _) rfl) ?_
                      refine seq_split (j := 3) rfl rfl (fun h74 => ?_) (fun h74 => ?_) rfl
                      · have h75 := un1 h74
                        replace H := ift h75 H
                        refine seq_g0 rfl rfl h74 (stp_move (.dat _) rfl) ?_
                        obtain ⟨r76, h77, H⟩ := bnd H
                        refine seq_g0 rfl rfl h74 (stp_call (k_internal_strconv_lower x60 r76 h77) ⟨.inl rfl, trivial⟩) ?_
                        refine seq_g0 rfl rfl h74 (stp_leq rfl rfl) ?_
                        refine seq_run0 (stp_pick_t rfl (bTT h75) rfl) ?_
                        refine seq_run0 (stp_assign (.dat _) rfl) ?_
                        exact ⟨decide (r76 ≤ 122), H, ⟨rfl, rfl, rfl, rfl, rfl, rfl, rfl, rfl, rfl, rfl, rfl, rfl, trivial⟩, trivial⟩
                      · have h78 := un2 h74
                        replace H := iff_ h78 H
                        refine seq_skip rfl rfl h74 ?_
                        refine seq_skip rfl rfl h74 ?_
                        refine seq_skip rfl rfl h74 ?_
                        refine seq_run0 (stp_pick_f rfl (bFF h78) rfl) ?_
                        refine seq_run0 (stp_assign (.dat _) rfl) ?_
                        exact ⟨false, H, ⟨rfl, rfl, rfl, rfl, rfl, rfl, rfl, rfl, rfl, rfl, rfl, rfl, trivial⟩, trivial⟩
                    · rintro v79 H
                      replace H : internal_strconv_ParseUint_J11 v46 v49 v53 v55 v56 x60 v79 = some q58 := H
                      unfold internal_strconv_ParseUint_J11 at H
                      refine awp_cond _ rfl (fun h80 => ?_) (fun h80 => ?_)
                      · replace H := ift h80 H
                        refine awp_plain hN rfl ?_
                        refine seq_run0 (stp_move (.dat _) rfl) ?_
                        obtain ⟨r81, h82, H⟩ := bnd H
                        refine seq_run0 (stp_call (k_internal_strconv_lower x60 r81 h82) ⟨.inl rfl, trivial⟩) ?_
                        refine seq_run0 (stp_wrap _ rfl rfl (.inr (.inl ⟨rfl, rfl⟩))) ?_
                        refine seq_run0 (stp_wrap _ rfl rfl (.inl ⟨rfl, rfl⟩)) ?_
                        refine seq_run0 (stp_assign (.dat _) rfl) ?_
                        exact ⟨IntKind.wrap .u8 ((IntKind.wrap .u8 (r81 - 97)) + 10), H, ⟨rfl, rfl, rfl, rfl, rfl, rfl, rfl, rfl, rfl, rfl, rfl, trivial⟩, trivial⟩
                      · replace H := iff_ h80 H
                        refine awp_seq ?_
                        refine awp_plain hN rfl ?_
                        refine seq_run0 (stp_dat (u' := verr 2) (stp_mkErr (show Tryz.prog.underlying 218 = some (.int .i64) from by kernel_rfl) rfl) rfl) ?_
                        refine seq_run0 (stp_assign (.dat _) rfl) ?_
                        refine seq_run0 (stp_assign (.dat _) rfl) ?_
                        refine awp_ret ?_
                        replace H := retl H hq58
                        cases H
                        exact ⟨trivial, .inl rfl, .inl rfl, trivial⟩
              · rintro v83 H
                replace H : internal_strconv_ParseUint_J10 v46 v49 v53 v55 v56 v83 = some q58 := H
                unfold internal_strconv_ParseUint_J10 at H
                refine awp_seq ?_
                refine awp_seq ?_
                refine awp_plain hN rfl ?_
                refine seq_run0 (stp_move (.dat _) rfl) ?_
                refine seq_run0 (stp_move (.dat _) rfl) ?_
                refine seq_run0 (stp_conv tyU3 tyU5 rfl) ?_
                refine seq_run0 (stp_geq rfl rfl) ?_
                refine awp_cond _ rfl (fun h84 => ?_) (fun h84 => ?_)
                · replace H := ift h84 H
                  refine awp_seq ?_
                  refine awp_plain hN rfl ?_
                  refine seq_run0 (stp_dat (u' := verr 2) (stp_mkErr (show Tryz.prog.underlying 218 = some (.int .i64) from by kernel_rfl) rfl) rfl) ?_
                  refine seq_run0 (stp_assign (.dat _) rfl) ?_
                  refine seq_run0 (stp_assign (.dat _) rfl) ?_
                  refine awp_ret ?_
                  replace H := retl H hq58
                  cases H
                  exact ⟨trivial, .inl rfl, .inl rfl, trivial⟩
                · replace H := iff_ h84 H
                  refine awp_skip ?_
                  refine awp_seq ?_
                  refine awp_seq ?_
                  refine awp_plain hN rfl ?_
                  refine seq_run0 (stp_move (.dat _) rfl) ?_
                  refine seq_run0 (stp_move (.dat _) rfl) ?_
                  refine seq_run0 (stp_geq rfl rfl) ?_
                  refine awp_cond _ rfl (fun h85 => ?_) (fun h85 => ?_)
                  · replace H := ift h85 H
                    refine awp_seq ?_
                    refine awp_plain hN rfl ?_
                    refine seq_run0 (stp_move (.dat _) rfl) ?_
                    refine seq_run0 (stp_dat (u' := verr 1) (stp_mkErr (show Tryz.prog.underlying 218 = some (.int .i64) from by kernel_rfl) rfl) rfl) ?_
                    refine seq_run0 (stp_assign (.dat _) rfl) ?_
                    refine seq_run0 (stp_assign (.dat _) rfl) ?_
                    refine awp_ret ?_
                    replace H := retl H hq58
                    cases H
                    exact ⟨trivial, .inl rfl, .inl rfl, trivial⟩
                  · replace H := iff_ h85 H
                    refine awp_skip ?_
                    refine awp_seq ?_
                    refine awp_plain hN rfl ?_
                    refine seq_run0 (stp_move (.dat _) rfl) ?_
                    refine seq_run0 (stp_move (.dat _) rfl) ?_
                    refine seq_run0 (stp_conv tyU3 tyU166 rfl) ?_
                    refine seq_run0 (stp_wrap _ rfl rfl (.inr (.inr ⟨rfl, rfl⟩))) ?_
                    refine seq_run0 (stp_assign (.dat _) rfl) ?_
                    refine awp_seq ?_
                    refine awp_plain hN rfl ?_
                    refine seq_run0 (stp_move (.dat _) rfl) ?_
                    refine seq_run0 (stp_move (.dat _) rfl) ?_
                    refine seq_run0 (stp_conv tyU5 tyU166 rfl) ?_
                    refine seq_run0 (stp_wrap _ rfl rfl (.inl ⟨rfl, rfl⟩)) ?_
                    refine seq_run0 (stp_assign (.dat _) rfl) ?_
                    refine awp_seq ?_
                    refine awp_seq ?_
                    refine awp_plain hN rfl ?_
                    refine seq_run0 (stp_move (.dat _) rfl) ?_
                    refine seq_run0 (stp_move (.dat _) rfl) ?_
                    refine seq_run0 (stp_lss rfl rfl) ?_
                    refine seq_run0 (stp_move (.dat _) rfl) ?_
                    refine seq_aF rfl rfl (fun hc => stp_move (.dat _) rfl) ?_
                    refine seq_aF rfl rfl (fun hc => stp_move (.dat _) rfl) ?_
                    refine seq_aF rfl rfl (fun hc => stp_gtr (cnd (c := (!(decide ((IntKind.wrap .u64 ((IntKind.wrap .u64 (v56 * (IntKind.wrap .u64 v46))) + (IntKind.wrap .u64 v83))) < (IntKind.wrap .u64 (v56 * (IntKind.wrap .u64 v46))))))) hc) (cnd (c := (!(decide ((IntKind.wrap .u64 ((IntKind.wrap .u64 (v56 * (IntKind.wrap .u64 v46))) + (IntKind.wrap .u64 v83))) < (IntKind.wrap .u64 (v56 * (IntKind.wrap .u64 v46))))))) hc)) ?_
                    refine seq_run0 (stp_pick_or rfl rfl (fun hb => (cnd (c := (!(decide ((IntKind.wrap .u64 ((IntKind.wrap .u64 (v56 * (IntKind.wrap .u64 v46))) + (IntKind.wrap .u64 v83))) < (IntKind.wrap .u64 (v56 * (IntKind.wrap .u64 v46))))))) (notI hb)))) ?_
                    refine awp_cond _ rfl (fun h86 => ?_) (fun h86 => ?_)
                    · replace H := ift h86 H
                      refine awp_seq ?_
                      refine awp_plain hN rfl ?_
                      refine seq_run0 (stp_move (.dat _) rfl) ?_
                      refine seq_run0 (stp_dat (u' := verr 1) (stp_mkErr (show Tryz.prog.underlying 218 = some (.int .i64) from by kernel_rfl) rfl) rfl) ?_
                      refine seq_run0 (stp_assign (.dat _) rfl) ?_
                      refine seq_run0 (stp_assign (.dat _) rfl) ?_
                      refine awp_ret ?_
                      replace H := retl H hq58
                      cases H
                      exact ⟨trivial, .inl rfl, .inl rfl, trivial⟩
                    · replace H := iff_ h86 H
                      refine awp_skip ?_
                      refine awp_plain hN rfl ?_
                      refine seq_run0 (stp_move (.dat _) rfl) ?_
                      refine seq_run0 (stp_assign (.dat _) rfl) ?_
                      exact ⟨(v55, IntKind.wrap .u64 ((IntKind.wrap .u64 (v56 * (IntKind.wrap .u64 v46))) + (IntKind.wrap .u64 v83))), H, ⟨rfl, rfl, rfl, rfl, rfl, rfl, rfl, rfl, rfl, rfl, trivial⟩, trivial⟩
            · rintro ⟨v87, v88⟩ H
              replace H : internal_strconv_ParseUint_J9 v87 v88 = some q58 := H
              unfold internal_strconv_ParseUint_J9 at H
              refine awp_plain hN rfl ?_
              refine seq_run0 (stp_add rfl rfl (by omega)) ?_
              refine seq_run0 (stp_move (.dat _) rfl) ?_
              exact ⟨_, backl H, ⟨rfl, rfl, rfl, rfl, rfl, rfl, rfl, rfl, rfl, rfl, trivial⟩, trivial⟩
theorem k_internal_strconv_ParseInt (v1 : Bs) (v2 : Int) (v3 : Int) (r : (Int × Int)) (H : m_internal_strconv_ParseInt v1 v2 v3 = some r) : Fn Tryz.prog 185 [vstr v1, vint v2, vint v3] (resOf [vint r.1, verr r.2]) := by
  refine ⟨by kernel_rfl, pure_of (us := [vint r.1, verr r.2]) Tryz.func185 rfl rfl rfl rfl fun X hN => ?_⟩
  unfold m_internal_strconv_ParseInt at H
  refine awp_seq ?_
  refine awp_plain hN rfl ?_
  refine seq_run0 (stp_assign (.dat _) rfl) ?_
  refine seq_run0 (stp_assign (.dat _) rfl) ?_
  refine awp_seq ?_
  refine awp_seq ?_
  refine awp_plain hN rfl ?_
  refine seq_run0 (stp_move (.dat _) rfl) ?_
  refine seq_run0 (stp_seql rfl rfl) ?_
  refine awp_cond _ rfl (fun h4 => ?_) (fun h4 => ?_)
  · replace H := ift h4 H
    refine awp_seq ?_
    refine awp_plain hN rfl ?_
    refine seq_run0 (stp_dat (u' := verr 2) (stp_mkErr (show Tryz.prog.underlying 218 = some (.int .i64) from by kernel_rfl) rfl) rfl) ?_
    refine seq_run0 (stp_assign (.dat _) rfl) ?_
    refine seq_run0 (stp_assign (.dat _) rfl) ?_
    refine awp_ret ?_
    cases H
    exact ⟨trivial, .inl rfl, .inl rfl, trivial⟩
  · replace H := iff_ h4 H
    refine awp_skip ?_
    refine awp_seq ?_
    refine awp_plain hN rfl ?_
    refine seq_run0 (stp_assign (.dat _) rfl) ?_
    refine awp_joinE (ι := Bs × Bool) (fun i => [(0, .dat (vstr i.1)), (1, .dat (vint v2)), (2, .dat (vint v3)), (8, .dat (vbool i.2))]) (fun i => []) (fun i => internal_strconv_ParseInt_J1 v2 v3 i.1 i.2 = some r) (fun i => rfl) ?_ ?_
    · skip
      refine awp_seq ?_
      refine awp_plain hN rfl ?_
      refine seq_run0 (stp_move (.dat _) rfl) ?_
      obtain ⟨x5, h6, H⟩ := bnd H
      refine seq_run0 (t_byte tyU9 rfl rfl h6) ?_
      refine awp_block ?_
      refine awp_seq ?_
      refine awp_plain hN rfl ?_
      refine seq_run0 (stp_eql rfl rfl) ?_
      refine seq_run0 (stp_assign (.dat _) rfl) ?_
      refine awp_cond _ rfl (fun h7 => ?_) (fun h7 => ?_)
      · replace H := ift h7 H
        refine awp_plain hN rfl ?_
        refine seq_run0 (stp_move (.dat _) rfl) ?_
        obtain ⟨l8, h9, H⟩ := bnd H
        refine seq_run0 (t_subS tyU9 rfl rfl rfl h9) ?_
        refine seq_run0 (stp_assign (.dat _) rfl) ?_
        exact ⟨(l8, false), H, ⟨rfl, rfl, rfl, rfl, trivial⟩, trivial⟩
      · replace H := iff_ h7 H
        refine awp_seq ?_
        refine awp_plain hN rfl ?_
        refine seq_run0 (stp_eql rfl rfl) ?_
        refine seq_run0 (stp_assign (.dat _) rfl) ?_
        refine awp_cond _ rfl (fun h10 => ?_) (fun h10 => ?_)
        · replace H := ift h10 H
          refine awp_seq ?_
          refine awp_plain hN rfl ?_
          refine seq_run0 (stp_move (.dat _) rfl) ?_
          obtain ⟨l11, h12, H⟩ := bnd H
          refine seq_run0 (t_subS tyU9 rfl rfl rfl h12) ?_
          refine seq_run0 (stp_assign (.dat _) rfl) ?_
          refine awp_plain hN rfl ?_
          refine seq_run0 (stp_assign (.dat _) rfl) ?_
          exact ⟨(l11, true), H, ⟨rfl, rfl, rfl, rfl, trivial⟩, trivial⟩
        · replace H := iff_ h10 H
          refine awp_skip ?_
          exact ⟨(v1, false), H, ⟨rfl, rfl, rfl, rfl, trivial⟩, trivial⟩
    · rintro ⟨v13, v14⟩ H
      replace H : internal_strconv_ParseInt_J1 v2 v3 v13 v14 = some r := H
      unfold internal_strconv_ParseInt_J1 at H
      refine awp_seq ?_
      refine awp_plain hN rfl ?_
      refine seq_run0 (stp_assign (.dat _) rfl) ?_
      refine awp_seq ?_
      refine awp_plain hN rfl ?_
      refine seq_run0 (stp_move (.dat _) rfl) ?_
      refine seq_run0 (stp_move (.dat _) rfl) ?_
      refine seq_run0 (stp_move (.dat _) rfl) ?_
      obtain ⟨r15, h16, H⟩ := bnd H
      refine seq_run0 (stp_call (k_internal_strconv_ParseUint v13 v2 v3 r15 h16) ⟨.inl rfl, .inl rfl, .inl rfl, trivial⟩) ?_
      refine seq_run0 (stp_move (.dat _) rfl) ?_
      refine seq_run0 (stp_ext rfl rfl) ?_
      refine seq_run0 (stp_ext rfl rfl) ?_
      refine seq_run0 (stp_assign (.dat _) rfl) ?_
      refine seq_run0 (stp_assign (.dat _) rfl) ?_
      refine awp_seq ?_
      refine awp_joinE (ι := Bool) (fun i => [(2, .dat (vint v3)), (7, .dat (verr r15.2)), (8, .dat (vbool v14)), (9, .dat (vval (.int .u64 r15.1))), (38, .dat (vbool i))]) (fun i => []) (fun i => internal_strconv_ParseInt_J2 v3 v14 r15 i = some r) (fun i => rfl) ?_ ?_
      · skip
        refine awp_plain hN rfl ?_
        refine seq_run0 (stp_move (.dat _) rfl) ?_
        refine seq_run0 (stp_errneq (n := r15.2) (show Tryz.prog.underlying 112 = some (.interface (Tryz.prog.methodsAt 112)) from by kernel_rfl) rfl) ?_
        refine seq_run0 (stp_move (.dat _) rfl) ?_
        refine seq_split (j := 2) rfl rfl (fun h17 => ?_) (fun h17 => ?_) rfl
        · have h18 := un1 h17
          replace H := ift h18 H
          refine seq_g0 rfl rfl h17 (stp_move (.dat _) rfl) ?_
          refine seq_g0 rfl rfl h17 (stp_dat (u' := verr 1) (stp_mkErr (show Tryz.prog.underlying 218 = some (.int .i64) from by kernel_rfl) rfl) rfl) ?_
          obtain ⟨h19, H⟩ := gif H
          refine seq_g0 rfl rfl h17 (stp_errneqK (n := r15.2) (m := 1) (show Tryz.prog.underlying 112 = some (.interface (Tryz.prog.methodsAt 112)) from by kernel_rfl) (by kernel_rfl) (by kernel_rfl) rfl rfl h19 (by decide)) ?_
          refine seq_run0 (stp_pick_t rfl (bTT h18) rfl) ?_
          exact ⟨decide (r15.2 ≠ 1), H, ⟨rfl, rfl, rfl, rfl, rfl, trivial⟩, trivial⟩
        · have h20 := un2 h17
          replace H := iff_ h20 H
          refine seq_skip rfl rfl h17 ?_
          refine seq_skip rfl rfl h17 ?_
          refine seq_skip rfl rfl h17 ?_
          refine seq_run0 (stp_pick_f rfl (bFF h20) rfl) ?_
          exact ⟨false, H, ⟨rfl, rfl, rfl, rfl, rfl, trivial⟩, trivial⟩
      · rintro v21 H
        replace H : internal_strconv_ParseInt_J2 v3 v14 r15 v21 = some r := H
        unfold internal_strconv_ParseInt_J2 at H
        refine awp_cond _ rfl (fun h22 => ?_) (fun h22 => ?_)
        · replace H := ift h22 H
          refine awp_seq ?_
          refine awp_plain hN rfl ?_
          refine seq_run0 (stp_move (.dat _) rfl) ?_
          refine seq_run0 (stp_assign (.dat _) rfl) ?_
          refine seq_run0 (stp_assign (.dat _) rfl) ?_
          refine awp_ret ?_
          cases H
          exact ⟨trivial, .inl rfl, .inl rfl, trivial⟩
        · replace H := iff_ h22 H
          refine awp_skip ?_
          refine awp_joinE (ι := Int) (fun i => [(2, .dat (vint i)), (8, .dat (vbool v14)), (9, .dat (vval (.int .u64 r15.1)))]) (fun i => []) (fun i => internal_strconv_ParseInt_J3 v14 r15 i = some r) (fun i => rfl) ?_ ?_
          · skip
            refine awp_seq ?_
            refine awp_plain hN rfl ?_
            refine seq_run0 (stp_move (.dat _) rfl) ?_
            refine seq_run0 (stp_eql rfl rfl) ?_
            refine awp_cond _ rfl (fun h23 => ?_) (fun h23 => ?_)
            · replace H := ift h23 H
              refine awp_plain hN rfl ?_
              refine seq_run0 (stp_assign (.dat _) rfl) ?_
              exact ⟨64, H, ⟨rfl, rfl, rfl, trivial⟩, trivial⟩
            · replace H := iff_ h23 H
              refine awp_skip ?_
              exact ⟨v3, H, ⟨rfl, rfl, rfl, trivial⟩, trivial⟩
          · rintro v24 H
            replace H : internal_strconv_ParseInt_J3 v14 r15 v24 = some r := H
            unfold internal_strconv_ParseInt_J3 at H
            refine awp_seq ?_
            refine awp_plain hN rfl ?_
            refine seq_run0 (stp_move (.dat _) rfl) ?_
            refine seq_run0 (stp_wrap _ rfl rfl (.inr (.inl ⟨rfl, rfl⟩))) ?_
            refine seq_run0 (stp_conv tyU3 tyU148 rfl) ?_
            obtain ⟨h25, H⟩ := gif H
            refine seq_run0 (stp_dat (stp_shl rfl rfl h25) rfl) ?_
            refine seq_run0 (stp_assign (.dat _) rfl) ?_
            refine awp_seq ?_
            refine awp_seq ?_
            refine awp_plain hN rfl ?_
            refine seq_run0 (stp_move (.dat _) rfl) ?_
            refine seq_run0 (stp_not rfl) ?_
            refine seq_run0 (stp_move (.dat _) rfl) ?_
            refine seq_aT rfl rfl (fun hc => stp_move (.dat _) rfl) ?_
            refine seq_aT rfl rfl (fun hc => stp_move (.dat _) rfl) ?_
            refine seq_aT rfl rfl (fun hc => stp_geq (cnd (c := (!v14)) hc) (cnd (c := (!v14)) hc)) ?_
            refine seq_run0 (stp_pick_and rfl (fun hb => (cnd (c := (!v14)) hb)) rfl) ?_
            refine awp_cond _ rfl (fun h26 => ?_) (fun h26 => ?_)
            · replace H := ift h26 H
              refine awp_seq ?_
              refine awp_plain hN rfl ?_
              refine seq_run0 (stp_move (.dat _) rfl) ?_
              refine seq_run0 (stp_wrap _ rfl rfl (.inr (.inl ⟨rfl, rfl⟩))) ?_
              refine seq_run0 (stp_conv tyU166 tyU2 rfl) ?_
              refine seq_run0 (stp_dat (u' := verr 1) (stp_mkErr (show Tryz.prog.underlying 218 = some (.int .i64) from by kernel_rfl) rfl) rfl) ?_
              refine seq_run0 (stp_assign (.dat _) rfl) ?_
              refine seq_run0 (stp_assign (.dat _) rfl) ?_
              refine awp_ret ?_
              cases H
              exact ⟨trivial, .inl rfl, .inl rfl, trivial⟩
            · replace H := iff_ h26 H
              refine awp_skip ?_
              refine awp_seq ?_
              refine awp_seq ?_
              refine awp_plain hN rfl ?_
              refine seq_run0 (stp_move (.dat _) rfl) ?_
              refine seq_run0 (stp_move (.dat _) rfl) ?_
              refine seq_aT rfl rfl (fun hc => stp_move (.dat _) rfl) ?_
              refine seq_aT rfl rfl (fun hc => stp_move (.dat _) rfl) ?_
              refine seq_aT rfl rfl (fun hc => stp_gtr (cnd (c := v14) hc) (cnd (c := v14) hc)) ?_
              refine seq_run0 (stp_pick_and rfl (fun hb => (cnd (c := v14) hb)) rfl) ?_
              refine awp_cond _ rfl (fun h27 => ?_) (fun h27 => ?_)
              · replace H := ift h27 H
                refine awp_seq ?_
                refine awp_plain hN rfl ?_
                refine seq_run0 (stp_move (.dat _) rfl) ?_
                refine seq_run0 (stp_conv tyU166 tyU2 rfl) ?_
                obtain ⟨h28, H⟩ := gif H
                refine seq_run0 (stp_neg rfl h28) ?_
                refine seq_run0 (stp_dat (u' := verr 1) (stp_mkErr (show Tryz.prog.underlying 218 = some (.int .i64) from by kernel_rfl) rfl) rfl) ?_
                refine seq_run0 (stp_assign (.dat _) rfl) ?_
                refine seq_run0 (stp_assign (.dat _) rfl) ?_
                refine awp_ret ?_
                cases H
                exact ⟨trivial, .inl rfl, .inl rfl, trivial⟩
              · replace H := iff_ h27 H
                refine awp_skip ?_
                refine awp_seq ?_
                refine awp_plain hN rfl ?_
                refine seq_run0 (stp_move (.dat _) rfl) ?_
                refine seq_run0 (stp_conv tyU166 tyU2 rfl) ?_
                refine seq_run0 (stp_assign (.dat _) rfl) ?_
                refine awp_joinE (ι := Int) (fun i => [(11, .dat (vint i))]) (fun i => []) (fun i => internal_strconv_ParseInt_J4 i = some r) (fun i => rfl) ?_ ?_
                · skip
                  refine awp_seq ?_
                  refine awp_plain hN rfl ?_
                  refine seq_run0 (stp_move (.dat _) rfl) ?_
                  refine awp_cond _ rfl (fun h29 => ?_) (fun h29 => ?_)
                  · replace H := ift h29 H
                    refine awp_plain hN rfl ?_
                    refine seq_run0 (stp_move (.dat _) rfl) ?_
                    obtain ⟨h30, H⟩ := gif H
                    refine seq_run0 (stp_neg rfl h30) ?_
                    refine seq_run0 (stp_assign (.dat _) rfl) ?_
                    exact ⟨(-(IntKind.wrap .i64 r15.1)), H, ⟨rfl, trivial⟩, trivial⟩
                  · replace H := iff_ h29 H
                    refine awp_skip ?_
                    exact ⟨IntKind.wrap .i64 r15.1, H, ⟨rfl, trivial⟩, trivial⟩
                · rintro v31 H
                  replace H : internal_strconv_ParseInt_J4 v31 = some r := H
                  unfold internal_strconv_ParseInt_J4 at H
                  refine awp_seq ?_
                  refine awp_plain hN rfl ?_
                  refine seq_run0 (stp_move (.dat _) rfl) ?_
                  refine seq_run0 (stp_assign (.dat _) rfl) ?_
                  refine seq_run0 (stp_assign (.dat _) rfl) ?_
                  refine awp_ret ?_
                  cases H
                  exact ⟨trivial, .inl rfl, .inl rfl, trivial⟩
theorem k_strconv_toError (fn s : Bs) (base bits e r : Int) (H : m_strconv_toError fn s base bits e = some r) : Fn Tryz.prog 186 [vstr fn, vstr s, vint base, vint bits, verr e] (resOf [verr r]) := by
  obtain ⟨⟨h1, h2, h3⟩, h4⟩ := gif H
  cases h4
  refine fn_of_callsG (by kernel_rfl) fun M w vs hM h => ?_
  rcases h3 with rfl | rfl
  · have hv := Ts_vals (us := [.string ⟨fn.toArray⟩, .string ⟨s.toArray⟩, .int .i64 base, .int .i64 bits, .iface 218 (.int .i64 2)]) h
    subst hv
    obtain ⟨tp, p, hc⟩ := ErrSyntax_cell hM
    refine (Tryz.strconv_toError_syntax ⟨fn.toArray⟩ ⟨s.toArray⟩ base bits (.iface tp p) w (by simp [ByteArray.size]; omega) hc (.inr ⟨tp, p, rfl⟩)).mono ?_
    rintro e w' ⟨N, rfl, _, _, hb⟩
    exact ⟨_, rfl, ⟨_, _, rfl⟩, Kp.of_below hb⟩
  · have hv := Ts_vals (us := [.string ⟨fn.toArray⟩, .string ⟨s.toArray⟩, .int .i64 base, .int .i64 bits, .iface 218 (.int .i64 1)]) h
    subst hv
    obtain ⟨tp, p, hc⟩ := ErrRange_cell hM
    refine (Tryz.strconv_toError_range ⟨fn.toArray⟩ ⟨s.toArray⟩ base bits (.iface tp p) w (by simp [ByteArray.size]; omega) hc (.inr ⟨tp, p, rfl⟩)).mono ?_
    rintro e w' ⟨N, rfl, _, _, hb⟩
    exact ⟨_, rfl, ⟨_, _, rfl⟩, Kp.of_below hb⟩
theorem k_strconv_ParseInt (s1 : Bs) (base2 : Int) (bitSize3 : Int) (r : (Int × Int)) (H : m_strconv_ParseInt s1 base2 bitSize3 = some r) : Fn Tryz.prog 131 [vstr s1, vint base2, vint bitSize3] (resOf [vint r.1, verr r.2]) := by
  refine ⟨by kernel_rfl, pure_of (us := [vint r.1, verr r.2]) Tryz.func131 rfl rfl rfl rfl fun X hN => ?_⟩
  unfold m_strconv_ParseInt at H
  refine awp_seq ?_
  refine awp_plain hN rfl ?_
  refine seq_run0 (stp_assign (.dat _) rfl) ?_
  refine seq_run0 (stp_assign (.dat _) rfl) ?_
  refine awp_seq ?_
  refine awp_plain hN rfl ?_
  refine seq_run0 (stp_move (.dat _) rfl) ?_
  refine seq_run0 (stp_move (.dat _) rfl) ?_
  refine seq_run0 (stp_move (.dat _) rfl) ?_
  obtain ⟨r4, h5, H⟩ := bnd H
  refine seq_run0 (stp_call (k_internal_strconv_ParseInt s1 base2 bitSize3 r4 h5) ⟨.inl rfl, .inl rfl, .inl rfl, trivial⟩) ?_
  refine seq_run0 (stp_move (.dat _) rfl) ?_
  refine seq_run0 (stp_ext rfl rfl) ?_
  refine seq_run0 (stp_ext rfl rfl) ?_
  refine seq_run0 (stp_assign (.dat _) rfl) ?_
  refine seq_run0 (stp_assign (.dat _) rfl) ?_
  refine awp_seq ?_
  refine awp_seq ?_
  refine awp_plain hN rfl ?_
  refine seq_run0 (stp_move (.dat _) rfl) ?_
  refine seq_run0 (stp_errneq (n := r4.2) (show Tryz.prog.underlying 112 = some (.interface (Tryz.prog.methodsAt 112)) from by kernel_rfl) rfl) ?_
  refine awp_cond _ rfl (fun h6 => ?_) (fun h6 => ?_)
  · replace H := ift h6 H
    refine awp_seq ?_
    refine awp_plain hN rfl ?_
    refine seq_run0 (stp_move (.dat _) rfl) ?_
    refine seq_run0 (stp_move (.dat _) rfl) ?_
    refine seq_run0 (stp_move (.dat _) rfl) ?_
    refine seq_run0 (stp_move (.dat _) rfl) ?_
    refine seq_run0 (stp_move (.dat _) rfl) ?_
    obtain ⟨r7, h8, H⟩ := bnd H
    refine seq_run0 (stp_call (k_strconv_toError [80, 97, 114, 115, 101, 73, 110, 116] s1 base2 bitSize3 r4.2 r7 h8) ⟨.inl rfl, .inl rfl, .inl rfl, .inl rfl, .inl rfl, trivial⟩) ?_
    refine seq_run0 (stp_assign (.dat _) rfl) ?_
    refine seq_run0 (stp_assign (.dat _) rfl) ?_
    refine awp_ret ?_
    cases H
    exact ⟨trivial, .inl rfl, .inl rfl, trivial⟩
  · replace H := iff_ h6 H
    refine awp_skip ?_
    refine awp_seq ?_
    refine awp_plain hN rfl ?_
    refine seq_run0 (stp_move (.dat _) rfl) ?_
    refine seq_run0 (stp_assign (.dat _) rfl) ?_
    refine seq_run0 (stp_assign (.dat _) rfl) ?_
    refine awp_ret ?_
    cases H
    exact ⟨trivial, .inl rfl, .inl rfl, trivial⟩
theorem k_message_chunkLength (s1 : Bs) (r : (Int × Bool)) (H : m_message_chunkLength s1 = some r) : Fn Tryz.prog 130 [vstr s1] (resOf [vint r.1, vbool r.2]) := by
  refine ⟨by kernel_rfl, pure_of (us := [vint r.1, vbool r.2]) Tryz.func130 rfl rfl rfl rfl fun X hN => ?_⟩
  unfold m_message_chunkLength at H
  refine awp_seq ?_
  refine awp_plain hN rfl ?_
  refine seq_run0 (stp_assign (.dat _) rfl) ?_
  refine seq_run0 (stp_assign (.dat _) rfl) ?_
  refine awp_seq ?_
  refine awp_joinE (ι := Bool) (fun i => [(0, .dat (vstr s1)), (26, .dat (vbool i))]) (fun i => []) (fun i => message_chunkLength_J1 s1 i = some r) (fun i => rfl) ?_ ?_
  · skip
    refine awp_plain hN rfl ?_
    refine seq_run0 (stp_move (.dat _) rfl) ?_
    refine seq_run0 (stp_seql rfl rfl) ?_
    refine seq_run0 (stp_move (.dat _) rfl) ?_
    refine seq_split (j := 2) rfl rfl (fun h2 => ?_) (fun h2 => ?_) rfl
    · have h3 := un3 h2
      replace H := iff_ h3 H
      refine seq_g0 rfl rfl h2 (stp_move (.dat _) rfl) ?_
      refine seq_g0 rfl rfl h2 (stp_len_str tyU9 rfl) ?_
      refine seq_g0 rfl rfl h2 (stp_gtr rfl rfl) ?_
      refine seq_run0 (stp_pick_f rfl (bFF h3) rfl) ?_
      refine seq_run0 (stp_move (.dat _) rfl) ?_
      refine seq_split (j := 7) rfl rfl (fun h4 => ?_) (fun h4 => ?_) rfl
      · have h5 := un3 h4
        replace H := iff_ h5 H
        refine seq_g0 rfl rfl h4 (stp_move (.dat _) rfl) ?_
        obtain ⟨r6, h7, H⟩ := bnd H
        refine seq_g0 rfl rfl h4 (stp_call (k_strings_TrimSet s1 [48, 49, 50, 51, 52, 53, 54, 55, 56, 57, 97, 98, 99, 100, 101, 102] r6 h7) ⟨.inl rfl, .inl rfl, trivial⟩) ?_
        refine seq_g0 rfl rfl h4 (stp_sneq rfl rfl) ?_
        refine seq_run0 (stp_pick_f rfl (bFF h5) rfl) ?_
        refine seq_run0 (stp_move (.dat _) rfl) ?_
        refine seq_split (j := 12) rfl rfl (fun h8 => ?_) (fun h8 => ?_) rfl
        · have h9 := un3 h8
          replace H := iff_ h9 H
          refine seq_g0 rfl rfl h8 (stp_move (.dat _) rfl) ?_
          obtain ⟨x10, h11, H⟩ := bnd H
          refine seq_g0 rfl rfl h8 (t_byte tyU9 rfl rfl h11) ?_
          refine seq_g0 rfl rfl h8 (stp_eql rfl rfl) ?_
          refine seq_g0 rfl rfl h8 (stp_move (.dat _) rfl) ?_
          refine seq_split (j := 16) rfl rfl (fun h12 => ?_) (fun h12 => ?_) rfl
          · have h13 := un1 h12
            replace H := ift h13 H
            refine seq_g0 rfl rfl h12 (stp_move (.dat _) rfl) ?_
            refine seq_g0 rfl rfl h12 (stp_sneq rfl rfl) ?_
            refine seq_g0 rfl rfl h8 (stp_pick_t rfl (bTT h13) rfl) ?_
            refine seq_run0 (stp_pick_f rfl (bFF h9) rfl) ?_
            exact ⟨decide (s1 ≠ [48]), H, ⟨rfl, rfl, trivial⟩, trivial⟩
          · have h14 := un2 h12
            replace H := iff_ h14 H
            refine seq_skip rfl rfl h12 ?_
            refine seq_skip rfl rfl h12 ?_
            refine seq_g0 rfl rfl h8 (stp_pick_f rfl (bFF h14) rfl) ?_
            refine seq_run0 (stp_pick_f rfl (bFF h9) rfl) ?_
            exact ⟨false, H, ⟨rfl, rfl, trivial⟩, trivial⟩
        · have h15 := un4 h8
          replace H := ift h15 H
          refine seq_skip rfl rfl h8 ?_
          refine seq_skip rfl rfl h8 ?_
          refine seq_skip rfl rfl h8 ?_
          refine seq_skip rfl rfl h8 ?_
          refine seq_skipU rfl rfl ?_
          refine seq_skipU rfl rfl ?_
          refine seq_skip rfl rfl h8 ?_
          refine seq_run0 (stp_pick_t rfl (bTT h15) rfl) ?_
          exact ⟨true, H, ⟨rfl, rfl, trivial⟩, trivial⟩
      · have h16 := un4 h4
        replace H := ift h16 H
        refine seq_skip rfl rfl h4 ?_
        refine seq_skip rfl rfl h4 ?_
        refine seq_skip rfl rfl h4 ?_
        refine seq_run0 (stp_pick_t rfl (bTT h16) rfl) ?_
        refine seq_run0 (stp_move (.dat _) rfl) ?_
        refine seq_skip rfl rfl rfl ?_
        refine seq_skip rfl rfl rfl ?_
        refine seq_skip rfl rfl rfl ?_
        refine seq_skip rfl rfl rfl ?_
        refine seq_skipU rfl rfl ?_
        refine seq_skipU rfl rfl ?_
        refine seq_skip rfl rfl rfl ?_
        refine seq_run0 (stp_pick_t rfl rfl rfl) ?_
        exact ⟨true, H, ⟨rfl, rfl, trivial⟩, trivial⟩
    · have h17 := un4 h2
      replace H := ift h17 H
      refine seq_skip rfl rfl h2 ?_
      refine seq_skip rfl rfl h2 ?_
      refine seq_skip rfl rfl h2 ?_
      refine seq_run0 (stp_pick_t rfl (bTT h17) rfl) ?_
      refine seq_run0 (stp_move (.dat _) rfl) ?_
      refine seq_skip rfl rfl rfl ?_
      refine seq_skip rfl rfl rfl ?_
      refine seq_skip rfl rfl rfl ?_
      refine seq_run0 (stp_pick_t rfl rfl rfl) ?_
      refine seq_run0 (stp_move (.dat _) rfl) ?_
      refine seq_skip rfl rfl rfl ?_
      refine seq_skip rfl rfl rfl ?_
      refine seq_skip rfl rfl rfl ?_
      refine seq_skip rfl rfl rfl ?_
      refine seq_skipU rfl rfl ?_
      refine seq_skipU rfl rfl ?_
      refine seq_skip rfl rfl rfl ?_
      refine seq_run0 (stp_pick_t rfl rfl rfl) ?_
      exact ⟨true, H, ⟨rfl, rfl, trivial⟩, trivial⟩
  · rintro v18 H
    replace H : message_chunkLength_J1 s1 v18 = some r := H
    unfold message_chunkLength_J1 at H
    refine awp_cond _ rfl (fun h19 => ?_) (fun h19 => ?_)
    · replace H := ift h19 H
      refine awp_seq ?_
      refine awp_plain hN rfl ?_
      refine seq_run0 (stp_assign (.dat _) rfl) ?_
      refine seq_run0 (stp_assign (.dat _) rfl) ?_
      refine awp_ret ?_
      cases H
      exact ⟨trivial, .inl rfl, .inl rfl, trivial⟩
    · replace H := iff_ h19 H
      refine awp_skip ?_
      refine awp_seq ?_
      refine awp_plain hN rfl ?_
      refine seq_run0 (stp_move (.dat _) rfl) ?_
      obtain ⟨r20, h21, H⟩ := bnd H
      refine seq_run0 (stp_call (k_strconv_ParseInt s1 16 64 r20 h21) ⟨.inl rfl, .inl rfl, .inl rfl, trivial⟩) ?_
      refine seq_run0 (stp_move (.dat _) rfl) ?_
      refine seq_run0 (stp_ext rfl rfl) ?_
      refine seq_run0 (stp_ext rfl rfl) ?_
      refine seq_run0 (stp_assign (.dat _) rfl) ?_
      refine seq_run0 (stp_assign (.dat _) rfl) ?_
      refine awp_seq ?_
      refine awp_draw mixed hN rfl rfl ?_
      refine seq_run0 (stp_move (.dat _) rfl) ?_
      refine seq_run0 (stp_move (.dat _) rfl) ?_
      refine seq_run0 (stp_erreql (n := r20.2) (show Tryz.prog.underlying 112 = some (.interface (Tryz.prog.methodsAt 112)) from by kernel_rfl) rfl) ?_
      refine seq_run0 (stp_assign (.dat _) rfl) ?_
      refine seq_run0 (stp_assign (.dat _) rfl) ?_
      refine ⟨rfl, ?_⟩
      refine awp_ret ?_
      cases H
      exact ⟨trivial, .inl rfl, .inl rfl, trivial⟩
theorem kb_strings_Builder_Len (l1 : (List Int)) (r : (Int × (List Int))) (H : m_strings_Builder_Len l1 = some r) : FnG Tryz.prog 98 [.ptr 0 0] [(0, .box (some 0) 110 [.nptr 0, .row 1 l1.length]), (1, .row 5 1 (List.map C_uint8 l1))] (.dat (resOf [vint r.1])) [(0, .box (some 0) 110 [.nptr 0, .row 900 r.2.length]), (900, .row 5 1 (List.map C_uint8 r.2))] := by
  refine fnG_of (by kernel_rfl) Tryz.func98 rfl rfl rfl rfl fun X A hN => ?_
  refine awp_cv ?_
  unfold m_strings_Builder_Len at H
  refine awp_seq ?_
  refine awp_plain hN rfl ?_
  refine seq_run0 (stp_assign (.dat _) rfl) ?_
  refine awp_seq ?_
  refine awp_plain hN rfl ?_
  refine seq_run0 (stp_move (.ptr _ _) rfl) ?_
  refine seq_run0 (stp_nilP rfl) ?_
  refine seq_run0 (stp_fldP tyF110_1 rfl) ?_
  refine seq_run1 (stp_load1 tyS46 rfl rfl) rfl ?_
  refine seq_run1 (t_lenR tyU46 rfl rfl) rfl ?_
  refine seq_run0 (stp_assign (.dat _) rfl) ?_
  refine awp_ret ?_
  cases H
  show Cv _ _ _ _
  refine cv_ren (rn [(1, 900)]) [(2, .dat (vint (l1.length : Int)))] [(0, .box (some (A.bl 0)) 110 [.nptr 0, .row 1 l1.length]), (1, .row 5 1 (List.map C_uint8 l1))] ⟨rfl, trivial⟩ ⟨rfl, rfl, trivial⟩ rfl rfl ?_
  exact ⟨trivial, [(2, .dat (vint (l1.length : Int)))], ⟨rfl, trivial⟩, ⟨rfl, rfl, trivial⟩, rfl, .inl ⟨[vint (l1.length : Int)], ⟨rfl, trivial⟩, rfl⟩⟩
theorem k_message_Unchunk (s1 : Bs) (r : (Bs × Int × Int)) (H : m_message_Unchunk s1 = some r) : Fn Tryz.prog 53 [vstr s1] (resOf [vstr r.1, vint r.2.1, vint r.2.2]) := by
  refine ⟨by kernel_rfl, pure_of (us := [vstr r.1, vint r.2.1, vint r.2.2]) Tryz.func53 rfl rfl rfl rfl fun X hN => ?_⟩
  unfold m_message_Unchunk at H
  refine awp_seq ?_
  refine awp_plain hN rfl ?_
  refine seq_run0 (stp_assign (.dat _) rfl) ?_
  refine seq_run0 (stp_assign (.dat _) rfl) ?_
  refine seq_run0 (stp_assign (.dat _) rfl) ?_
  refine awp_seq ?_
  refine awp_plain hN rfl ?_
  refine seq_run2 (stp_alloc 1 tyZ110 rfl) rfl ?_
  refine awp_wkB 1 0 (.nptr 1) rfl rfl nptr_nil ?_
  refine awp_nilrowB 1 1 2 5 1 rfl rfl rfl rfl ?_
  refine awp_seq ?_
  refine awp_plain hN rfl ?_
  refine seq_run0 (stp_assign (.dat _) rfl) ?_
  refine awp_block ?_
  refine awp_iter (fun (s : Int × (List Int)) => [(0, .dat (vstr s1)), (5, .ptr 1 0), (6, .dat (vint s.1))]) (fun (s : Int × (List Int)) => [(1, .box none 110 [.nptr 1, .row 2 s.2.length]), (2, .row 5 1 (List.map C_uint8 s.2))]) (0, ([] : List Int)) H ⟨rfl, rfl, rfl, trivial⟩ ⟨rfl, rfl, trivial⟩ (fun _ => rfl) ?_
  rintro ⟨v2, l3⟩ q4 H hq4
  replace H : message_Unchunk_L1 s1 v2 l3 = some q4 := H
  unfold message_Unchunk_L1 at H
  refine awp_cv ?_
  refine awp_block ?_
  refine awp_seq ?_
  refine awp_plain hN rfl ?_
  refine seq_run0 (stp_move (.dat _) rfl) ?_
  refine seq_run0 (stp_move (.dat _) rfl) ?_
  obtain ⟨l5, h6, H⟩ := bnd H
  refine seq_run0 (t_subS tyU9 rfl rfl rfl h6) ?_
  obtain ⟨r7, h8, H⟩ := bnd H
  refine seq_run0 (stp_call (k_strings_Cut l5 [13, 10] r7 h8) ⟨.inl rfl, .inl rfl, trivial⟩) ?_
  refine seq_run0 (stp_move (.dat _) rfl) ?_
  refine seq_run0 (stp_ext rfl rfl) ?_
  refine seq_run0 (stp_ext rfl rfl) ?_
  refine seq_run0 (stp_ext rfl rfl) ?_
  refine seq_run0 (stp_assign (.dat _) rfl) ?_
  refine seq_run0 (stp_assign (.dat _) rfl) ?_
  refine seq_run0 (stp_assign (.dat _) rfl) ?_
  refine awp_seq ?_
  refine awp_plain hN rfl ?_
  refine seq_run0 (stp_move (.dat _) rfl) ?_
  obtain ⟨r9, h10, H⟩ := bnd H
  refine seq_run0 (stp_call (k_message_chunkLength r7.1 r9 h10) ⟨.inl rfl, trivial⟩) ?_
  refine seq_run0 (stp_move (.dat _) rfl) ?_
  refine seq_run0 (stp_ext rfl rfl) ?_
  refine seq_run0 (stp_ext rfl rfl) ?_
  refine seq_run0 (stp_assign (.dat _) rfl) ?_
  refine seq_run0 (stp_assign (.dat _) rfl) ?_
  refine awp_seq ?_
  refine awp_seq ?_
  refine awp_plain hN rfl ?_
  refine seq_run0 (stp_move (.dat _) rfl) ?_
  refine seq_run0 (stp_not rfl) ?_
  refine seq_run0 (stp_move (.dat _) rfl) ?_
  refine seq_aF rfl rfl (fun hc => stp_move (.dat _) rfl) ?_
  refine seq_aF rfl rfl (fun hc => stp_not (cnd (c := (!(!r7.2.2))) hc)) ?_
  refine seq_run0 (stp_pick_or rfl rfl (fun hb => (cnd (c := (!(!r7.2.2))) (notI hb)))) ?_
  refine awp_cond _ rfl (fun h11 => ?_) (fun h11 => ?_)
  · replace H := ift h11 H
    refine awp_seq ?_
    refine awp_plain hN rfl ?_
    refine seq_run0 (stp_assign (.dat _) rfl) ?_
    refine seq_run0 (stp_assign (.dat _) rfl) ?_
    refine seq_run0 (stp_assign (.dat _) rfl) ?_
    refine awp_ret ?_
    replace H := retl H hq4
    cases H
    show Cv _ _ _ _
    refine cv_in ?_
    exact ⟨trivial, .inl rfl, .inl rfl, .inl rfl, trivial⟩
  · replace H := iff_ h11 H
    refine awp_skip ?_
    refine awp_seq ?_
    refine awp_seq ?_
    refine awp_plain hN rfl ?_
    obtain ⟨r12, h13, H⟩ := bnd H
    refine seq_callG (rn [(0, 1), (1, 2), (900, 3)]) [(0, _, _, some _), (1, _, _, none)] [(900, _)] (kb_strings_Builder_Len l3 r12 h13) ⟨rfl, rfl, rfl, trivial⟩ ⟨.inl (.inl rfl), trivial⟩ ⟨⟨⟨rfl, rfl⟩, trivial⟩, ⟨⟨rfl, rfl, rfl⟩, trivial⟩, trivial⟩ rfl ?_
    refine seq_run0 (stp_move (.dat _) rfl) ?_
    refine seq_run0 (stp_wrap _ rfl rfl (.inl ⟨rfl, rfl⟩)) ?_
    refine seq_run0 (stp_gtr rfl rfl) ?_
    refine awp_cond _ rfl (fun h14 => ?_) (fun h14 => ?_)
    · replace H := ift h14 H
      refine awp_seq ?_
      refine awp_plain hN rfl ?_
      refine seq_run0 (stp_assign (.dat _) rfl) ?_
      refine seq_run0 (stp_assign (.dat _) rfl) ?_
      refine seq_run0 (stp_assign (.dat _) rfl) ?_
      refine awp_ret ?_
      replace H := retl H hq4
      cases H
      show Cv _ _ _ _
      refine cv_in ?_
      exact ⟨trivial, .inl rfl, .inl rfl, .inl rfl, trivial⟩
    · replace H := iff_ h14 H
      refine awp_skip ?_
      refine awp_seq ?_
      refine awp_joinE (ι := Bool) (fun i => [(0, .dat (vstr s1)), (5, .ptr 1 0), (6, .dat (vint v2)), (7, .dat (vstr r7.1)), (8, .dat (vstr r7.2.1)), (10, .dat (vint r9.1)), (47, .dat (vbool i))]) (fun i => [(1, .box none 110 [.nptr 1, .row 3 r12.2.length]), (3, .row 5 1 (List.map C_uint8 r12.2))]) (fun i => message_Unchunk_J2 v2 r7 r9 r12 i = some q4) (fun i => rfl) ?_ ?_
      · refine awp_cv ?_
        refine awp_plain hN rfl ?_
        refine seq_run0 (stp_move (.dat _) rfl) ?_
        refine seq_run0 (stp_len_str tyU9 rfl) ?_
        refine seq_run0 (stp_move (.dat _) rfl) ?_
        refine seq_run0 (stp_wrap _ rfl rfl (.inl ⟨rfl, rfl⟩)) ?_
        refine seq_run0 (stp_lss rfl rfl) ?_
        refine seq_run0 (stp_move (.dat _) rfl) ?_
        refine seq_split (j := 5) rfl rfl (fun h15 => ?_) (fun h15 => ?_) rfl
        · have h16 := un3 h15
          replace H := iff_ h16 H
          refine seq_g0 rfl rfl h15 (stp_move (.dat _) rfl) ?_
          refine seq_g0 rfl rfl h15 (stp_move (.dat _) rfl) ?_
          refine seq_g0 rfl rfl h15 (stp_move (.dat _) rfl) ?_
          refine seq_g0 rfl rfl h15 (stp_wrap _ rfl rfl (.inl ⟨rfl, rfl⟩)) ?_
          obtain ⟨l17, h18, H⟩ := bnd H
          refine seq_g0 rfl rfl h15 (t_subS tyU9 rfl rfl rfl h18) ?_
          refine seq_g0 rfl rfl h15 (stp_sneq rfl rfl) ?_
          refine seq_run0 (stp_pick_f rfl (bFF h16) rfl) ?_
          refine seq_end ?_
          show Cv _ _ _ _
          refine cv_in ?_
          exact ⟨decide (l17 ≠ [13, 10]), H, ⟨rfl, rfl, rfl, rfl, rfl, rfl, rfl, trivial⟩, ⟨rfl, rfl, trivial⟩⟩
        · have h19 := un4 h15
          replace H := ift h19 H
          refine seq_skip rfl rfl h15 ?_
          refine seq_skip rfl rfl h15 ?_
          refine seq_skip rfl rfl h15 ?_
          refine seq_skip rfl rfl h15 ?_
          refine seq_skip rfl rfl h15 ?_
          refine seq_skip rfl rfl h15 ?_
          refine seq_run0 (stp_pick_t rfl (bTT h19) rfl) ?_
          refine seq_end ?_
          show Cv _ _ _ _
          refine cv_in ?_
          exact ⟨true, H, ⟨rfl, rfl, rfl, rfl, rfl, rfl, rfl, trivial⟩, ⟨rfl, rfl, trivial⟩⟩
      · rintro v20 H
        replace H : message_Unchunk_J2 v2 r7 r9 r12 v20 = some q4 := H
        unfold message_Unchunk_J2 at H
        refine awp_cond _ rfl (fun h21 => ?_) (fun h21 => ?_)
        · replace H := ift h21 H
          refine awp_seq ?_
          refine awp_plain hN rfl ?_
          refine seq_run0 (stp_assign (.dat _) rfl) ?_
          refine seq_run0 (stp_assign (.dat _) rfl) ?_
          refine seq_run0 (stp_assign (.dat _) rfl) ?_
          refine awp_ret ?_
          replace H := retl H hq4
          cases H
          show Cv _ _ _ _
          refine cv_in ?_
          exact ⟨trivial, .inl rfl, .inl rfl, .inl rfl, trivial⟩
        · replace H := iff_ h21 H
          refine awp_skip ?_
          refine awp_seq ?_
          refine awp_plain hN rfl ?_
          refine seq_run0 (stp_move (.dat _) rfl) ?_
          refine seq_run0 (stp_move (.dat _) rfl) ?_
          refine seq_run0 (stp_len_str tyU9 rfl) ?_
          refine seq_run0 (stp_wrap _ rfl rfl (.inl ⟨rfl, rfl⟩)) ?_
          refine seq_run0 (stp_move (.dat _) rfl) ?_
          refine seq_run0 (stp_wrap _ rfl rfl (.inl ⟨rfl, rfl⟩)) ?_
          refine seq_run0 (stp_wrap _ rfl rfl (.inl ⟨rfl, rfl⟩)) ?_
          refine seq_run0 (stp_wrap _ rfl rfl (.inl ⟨rfl, rfl⟩)) ?_
          refine seq_run0 (stp_assign (.dat _) rfl) ?_
          refine awp_seq ?_
          refine awp_seq ?_
          refine awp_plain hN rfl ?_
          refine seq_run0 (stp_move (.dat _) rfl) ?_
          refine seq_run0 (stp_eql rfl rfl) ?_
          refine awp_cond _ rfl (fun h22 => ?_) (fun h22 => ?_)
          · replace H := ift h22 H
            refine awp_seq ?_
            refine awp_plain hN rfl ?_
            obtain ⟨h23, H⟩ := gif H
            refine seq_callG (rn [(0, 1), (1, 3)]) [(0, _, _, none), (1, _, _, none)] [] (kbs_String h23 (C := C_uint8) (fun _ => rfl)) ⟨rfl, rfl, trivial⟩ ⟨.inl (.inl rfl), trivial⟩ ⟨⟨⟨rfl, rfl⟩, trivial⟩, ⟨⟨rfl, rfl, rfl⟩, trivial⟩, trivial⟩ rfl ?_
            refine seq_run0 (stp_move (.dat _) rfl) ?_
            refine seq_run0 (stp_assign (.dat _) rfl) ?_
            refine seq_run0 (stp_assign (.dat _) rfl) ?_
            refine seq_run0 (stp_assign (.dat _) rfl) ?_
            refine awp_ret ?_
            replace H := retl H hq4
            cases H
            show Cv _ _ _ _
            refine cv_in ?_
            exact ⟨trivial, .inl rfl, .inl rfl, .inl rfl, trivial⟩
          · replace H := iff_ h22 H
            refine awp_skip ?_
            refine awp_plain hN rfl ?_
            refine seq_run0 (stp_move (.dat _) rfl) ?_
            refine seq_run0 (stp_move (.dat _) rfl) ?_
            obtain ⟨l24, h25, H⟩ := bnd H
            refine seq_run0 (t_subS tyU9 rfl rfl rfl h25) ?_
            obtain ⟨r26, h27, H⟩ := bnd H
            refine seq_callG (rn [(0, 1), (1, 3), (900, 4)]) [(0, _, _, some _), (1, _, _, none)] [(900, _)] (kb_strings_Builder_WriteString r12.2 l24 r26 h27) ⟨rfl, rfl, rfl, trivial⟩ ⟨.inl (.inl rfl), .inl (.inl rfl), trivial⟩ ⟨⟨⟨rfl, rfl⟩, trivial⟩, ⟨⟨rfl, rfl, rfl⟩, trivial⟩, trivial⟩ rfl ?_
            refine seq_end ?_
            show Cv _ _ _ _
            refine cv_ren (rn [(4, 2)]) [(0, .dat (vstr s1)), (5, .ptr 1 0), (6, .dat (vint (wr (v2 + (wr ((wr ((wr ((r7.1.length : Int) + 2)) + r9.1)) + 2))))))] [(1, .box none 110 [.nptr 1, .row 4 r26.2.2.length]), (4, .row 5 1 (List.map C_uint8 r26.2.2))] ⟨rfl, rfl, rfl, trivial⟩ ⟨rfl, rfl, trivial⟩ rfl rfl ?_
            exact ⟨_, backl H, ⟨rfl, rfl, rfl, trivial⟩, ⟨rfl, rfl, trivial⟩⟩
theorem k_gatelaw2_when (is1 : Bool) (e2 : Int) (r : (Int)) (H : m_gatelaw2_when is1 e2 = some r) : Fn Tryz.prog 55 [vbool is1, vint e2] (resOf [vint r]) := by
  refine ⟨by kernel_rfl, pure_of (us := [vint r]) Tryz.func55 rfl rfl rfl rfl fun X hN => ?_⟩
  unfold m_gatelaw2_when at H
  refine awp_seq ?_
  refine awp_plain hN rfl ?_
  refine seq_run0 (stp_assign (.dat _) rfl) ?_
  refine awp_seq ?_
  refine awp_seq ?_
  refine awp_plain hN rfl ?_
  refine seq_run0 (stp_move (.dat _) rfl) ?_
  refine awp_cond _ rfl (fun h3 => ?_) (fun h3 => ?_)
  · replace H := ift h3 H
    refine awp_seq ?_
    refine awp_plain hN rfl ?_
    refine seq_run0 (stp_move (.dat _) rfl) ?_
    refine seq_run0 (stp_assign (.dat _) rfl) ?_
    refine awp_ret ?_
    cases H
    exact ⟨trivial, .inl rfl, trivial⟩
  · replace H := iff_ h3 H
    refine awp_skip ?_
    refine awp_seq ?_
    refine awp_plain hN rfl ?_
    refine seq_run0 (stp_assign (.dat _) rfl) ?_
    refine awp_ret ?_
    cases H
    exact ⟨trivial, .inl rfl, trivial⟩
theorem k_gatelaw2_errs (l1 : (List Int)) (r : (Int)) (H : m_gatelaw2_errs l1 = some r) : Fn Tryz.prog 54 [vlst (List.map C_api_Errno l1)] (resOf [vint r]) := by
  refine ⟨by kernel_rfl, pure_of (us := [vint r]) Tryz.func54 rfl rfl rfl rfl fun X hN => ?_⟩
  unfold m_gatelaw2_errs at H
  refine awp_seq ?_
  refine awp_plain hN rfl ?_
  refine seq_run0 (stp_assign (.dat _) rfl) ?_
  refine awp_seq ?_
  refine awp_seq ?_
  refine awp_plain hN rfl ?_
  refine seq_run0 (stp_move (.dat _) rfl) ?_
  refine seq_run0 (t_len tyU145 rfl) ?_
  refine seq_run0 (stp_move (.dat _) rfl) ?_
  refine awp_block ?_
  obtain ⟨h4, H⟩ := gif H
  refine awp_forL (fun (k2 : Nat) (s : Unit) => [(5, .dat (vlst (List.map C_api_Errno l1))), (6, .dat (vint (l1.length : Int))), (7, .dat (vint (k2 : Int)))]) (fun (k2 : Nat) (s : Unit) => []) () H ⟨rfl, rfl, rfl, trivial⟩ trivial (fun _ _ => rfl) ?_ ?_
  · rintro ⟨⟩ H
    replace H : gatelaw2_errs_E1 = some r := H
    unfold gatelaw2_errs_E1 at H
    refine awp_seq ?_
    refine awp_plain hN rfl ?_
    refine seq_run0 (stp_lss rfl rfl) ?_
    refine awp_seq ?_
    refine awp_cond _ rfl (fun h => (lt_t h).elim) (fun h => ?_)
    refine awp_exit ?_
    refine awp_seq ?_
    refine awp_plain hN rfl ?_
    refine seq_run0 (stp_assign (.dat _) rfl) ?_
    refine awp_ret ?_
    cases H
    exact ⟨trivial, .inl rfl, trivial⟩
  · rintro k2 x5 ⟨⟩ q3 h6 h7 H hq3
    replace H : gatelaw2_errs_L1 k2 x5 = some q3 := H
    unfold gatelaw2_errs_L1 at H
    refine awp_seq ?_
    refine awp_plain hN rfl ?_
    refine seq_run0 (stp_lss rfl rfl) ?_
    refine awp_seq ?_
    refine awp_cond _ rfl (fun h => ?_) (fun h => (lt_f h6 h).elim)
    refine awp_skip ?_
    refine awp_seq ?_
    refine awp_block ?_
    refine awp_seq ?_
    refine awp_plain hN rfl ?_
    refine seq_run0 (t_idx tyE145 (fun _ => rfl) rfl rfl h7) ?_
    refine seq_run0 (stp_loadE1 tyS34 rfl (map_at h7) rfl) ?_
    refine seq_run0 (stp_assign (.dat _) rfl) ?_
    refine awp_seq ?_
    refine awp_plain hN rfl ?_
    refine seq_run0 (stp_move (.dat _) rfl) ?_
    refine seq_run0 (stp_neq rfl rfl) ?_
    refine awp_cond _ rfl (fun h8 => ?_) (fun h8 => ?_)
    · replace H := ift h8 H
      refine awp_seq ?_
      refine awp_plain hN rfl ?_
      refine seq_run0 (stp_move (.dat _) rfl) ?_
      refine seq_run0 (stp_assign (.dat _) rfl) ?_
      refine awp_ret ?_
      replace H := retl H hq3
      cases H
      exact ⟨trivial, .inl rfl, trivial⟩
    · replace H := iff_ h8 H
      refine awp_skip ?_
      refine awp_plain hN rfl ?_
      refine seq_run0 (stp_add rfl rfl (by omega)) ?_
      refine seq_run0 (stp_move (.dat _) rfl) ?_
      exact ⟨_, backl H, ⟨rfl, rfl, rfl, trivial⟩, trivial⟩
theorem k_gateref2_in (n1 : Int) (low2 : Int) (high3 : Int) (r : (Bool)) (H : m_gateref2_in n1 low2 high3 = some r) : Fn Tryz.prog 79 [vint n1, vint low2, vint high3] (resOf [vbool r]) := by
  refine ⟨by kernel_rfl, pure_of (us := [vbool r]) Tryz.func79 rfl rfl rfl rfl fun X hN => ?_⟩
  unfold m_gateref2_in at H
  refine awp_seq ?_
  refine awp_plain hN rfl ?_
  refine seq_run0 (stp_assign (.dat _) rfl) ?_
  refine awp_seq ?_
  refine awp_plain hN rfl ?_
  refine seq_run0 (stp_move (.dat _) rfl) ?_
  refine seq_run0 (stp_move (.dat _) rfl) ?_
  refine seq_run0 (stp_leq rfl rfl) ?_
  refine seq_run0 (stp_move (.dat _) rfl) ?_
  refine seq_aT rfl rfl (fun hc => stp_move (.dat _) rfl) ?_
  refine seq_aT rfl rfl (fun hc => stp_move (.dat _) rfl) ?_
  refine seq_aT rfl rfl (fun hc => stp_leq (cnd (c := (decide (low2 ≤ n1))) hc) (cnd (c := (decide (low2 ≤ n1))) hc)) ?_
  refine seq_run0 (stp_pick_and rfl (fun hb => (cnd (c := (decide (low2 ≤ n1))) hb)) rfl) ?_
  refine seq_run0 (stp_assign (.dat _) rfl) ?_
  refine awp_ret ?_
  cases H
  exact ⟨trivial, .inl rfl, trivial⟩
theorem k_strings_IndexByte (l : Bs) (c r : Int) (H : m_strings_IndexByte l c = some r) : Fn Tryz.prog 101 [vstr l, vval (.int .u8 c)] (resOf [vint r]) := by
  cases H
  refine fn_of_calls (by kernel_rfl) fun M w vs h => ?_
  have h1 := Ts_vals (us := [.string ⟨l.toArray⟩, .int .u8 c]) h
  subst h1
  refine (Tryz.strings_IndexByte ⟨l.toArray⟩ c w).mono ?_
  rintro e w' ⟨rfl, rfl⟩
  exact ⟨_, rfl, rfl, Kp.refl _ _⟩
theorem k_gateref2_only (s1 : Bs) (some2 : Bs) (r : (Bool)) (H : m_gateref2_only s1 some2 = some r) : Fn Tryz.prog 86 [vstr s1, vstr some2] (resOf [vbool r]) := by
  refine ⟨by kernel_rfl, pure_of (us := [vbool r]) Tryz.func86 rfl rfl rfl rfl fun X hN => ?_⟩
  unfold m_gateref2_only at H
  refine awp_seq ?_
  refine awp_plain hN rfl ?_
  refine seq_run0 (stp_assign (.dat _) rfl) ?_
  refine awp_seq ?_
  refine awp_seq ?_
  refine awp_plain hN rfl ?_
  refine seq_run0 (stp_move (.dat _) rfl) ?_
  refine seq_run0 (stp_len_str tyU9 rfl) ?_
  refine seq_run0 (stp_move (.dat _) rfl) ?_
  refine awp_block ?_
  obtain ⟨h5, H⟩ := gif H
  refine awp_forL (fun (k3 : Nat) (s : Unit) => [(0, .dat (vstr s1)), (1, .dat (vstr some2)), (7, .dat (vint (s1.length : Int))), (8, .dat (vint (k3 : Int)))]) (fun (k3 : Nat) (s : Unit) => []) () H ⟨rfl, rfl, rfl, rfl, trivial⟩ trivial (fun _ _ => rfl) ?_ ?_
  · rintro ⟨⟩ H
    replace H : gateref2_only_E1 = some r := H
    unfold gateref2_only_E1 at H
    refine awp_seq ?_
    refine awp_plain hN rfl ?_
    refine seq_run0 (stp_lss rfl rfl) ?_
    refine awp_seq ?_
    refine awp_cond _ rfl (fun h => (lt_t h).elim) (fun h => ?_)
    refine awp_exit ?_
    refine awp_seq ?_
    refine awp_plain hN rfl ?_
    refine seq_run0 (stp_assign (.dat _) rfl) ?_
    refine awp_ret ?_
    cases H
    exact ⟨trivial, .inl rfl, trivial⟩
  · rintro k3 x6 ⟨⟩ q4 h7 h8 H hq4
    replace H : gateref2_only_L1 some2 k3 x6 = some q4 := H
    unfold gateref2_only_L1 at H
    refine awp_seq ?_
    refine awp_plain hN rfl ?_
    refine seq_run0 (stp_lss rfl rfl) ?_
    refine awp_seq ?_
    refine awp_cond _ rfl (fun h => ?_) (fun h => (lt_f h7 h).elim)
    refine awp_skip ?_
    refine awp_seq ?_
    refine awp_block ?_
    refine awp_seq ?_
    refine awp_plain hN rfl ?_
    refine seq_run0 (stp_move (.dat _) rfl) ?_
    refine seq_run0 (stp_assign (.dat _) rfl) ?_
    refine awp_seq ?_
    refine awp_plain hN rfl ?_
    refine seq_run0 (stp_move (.dat _) rfl) ?_
    refine seq_run0 (stp_move (.dat _) rfl) ?_
    refine seq_run0 (stp_move (.dat _) rfl) ?_
    refine seq_run0 (t_byte tyU9 rfl rfl h8) ?_
    obtain ⟨r9, h10, H⟩ := bnd H
    refine seq_run0 (stp_call (k_strings_IndexByte some2 (x6.toNat : Int) r9 h10) ⟨.inl rfl, .inl rfl, trivial⟩) ?_
    refine seq_run0 (stp_lss rfl rfl) ?_
    refine awp_cond _ rfl (fun h11 => ?_) (fun h11 => ?_)
    · replace H := ift h11 H
      refine awp_seq ?_
      refine awp_plain hN rfl ?_
      refine seq_run0 (stp_assign (.dat _) rfl) ?_
      refine awp_ret ?_
      replace H := retl H hq4
      cases H
      exact ⟨trivial, .inl rfl, trivial⟩
    · replace H := iff_ h11 H
      refine awp_skip ?_
      refine awp_plain hN rfl ?_
      refine seq_run0 (stp_add rfl rfl (by omega)) ?_
      refine seq_run0 (stp_move (.dat _) rfl) ?_
      exact ⟨_, backl H, ⟨rfl, rfl, rfl, rfl, trivial⟩, trivial⟩
theorem k_gateref2_BodyOf (v1 : Bs) (r : (Bs × Int × Int)) (H : m_gateref2_BodyOf v1 = some r) : Fn Tryz.prog 57 [vstr v1] (resOf [vstr r.1, vint r.2.1, vint r.2.2]) := by
  refine ⟨by kernel_rfl, pure_of (us := [vstr r.1, vint r.2.1, vint r.2.2]) Tryz.func57 rfl rfl rfl rfl fun X hN => ?_⟩
  unfold m_gateref2_BodyOf at H
  refine awp_seq ?_
  refine awp_plain hN rfl ?_
  refine seq_run0 (stp_assign (.dat _) rfl) ?_
  refine seq_run0 (stp_assign (.dat _) rfl) ?_
  refine seq_run0 (stp_assign (.dat _) rfl) ?_
  refine awp_seq ?_
  refine awp_plain hN rfl ?_
  refine seq_run0 (stp_move (.dat _) rfl) ?_
  refine seq_run0 (stp_assign (.dat _) rfl) ?_
  refine seq_run0 (stp_assign (.dat _) rfl) ?_
  refine awp_block ?_
  refine awp_iter (fun (s : Bs × Bs) => [(0, .dat (vstr v1)), (5, .dat (vstr s.1)), (6, .dat (vstr s.2))]) (fun (s : Bs × Bs) => []) ([], v1) H ⟨rfl, rfl, rfl, trivial⟩ trivial (fun _ => rfl) ?_
  rintro ⟨v2, v3⟩ q4 H hq4
  replace H : gateref2_BodyOf_L1 v1 v2 v3 = some q4 := H
  unfold gateref2_BodyOf_L1 at H
  refine awp_block ?_
  refine awp_seq ?_
  refine awp_plain hN rfl ?_
  refine seq_run0 (stp_move (.dat _) rfl) ?_
  obtain ⟨r5, h6, H⟩ := bnd H
  refine seq_run0 (stp_call (k_strings_Cut v3 [13, 10] r5 h6) ⟨.inl rfl, .inl rfl, trivial⟩) ?_
  refine seq_run0 (stp_move (.dat _) rfl) ?_
  refine seq_run0 (stp_ext rfl rfl) ?_
  refine seq_run0 (stp_ext rfl rfl) ?_
  refine seq_run0 (stp_ext rfl rfl) ?_
  refine seq_run0 (stp_assign (.dat _) rfl) ?_
  refine seq_run0 (stp_assign (.dat _) rfl) ?_
  refine seq_run0 (stp_assign (.dat _) rfl) ?_
  refine awp_seq ?_
  refine awp_plain hN rfl ?_
  refine seq_run0 (stp_move (.dat _) rfl) ?_
  obtain ⟨r7, h8, H⟩ := bnd H
  refine seq_run0 (stp_call (k_strconv_ParseInt r5.1 16 64 r7 h8) ⟨.inl rfl, .inl rfl, .inl rfl, trivial⟩) ?_
  refine seq_run0 (stp_move (.dat _) rfl) ?_
  refine seq_run0 (stp_ext rfl rfl) ?_
  refine seq_run0 (stp_ext rfl rfl) ?_
  refine seq_run0 (stp_assign (.dat _) rfl) ?_
  refine seq_run0 (stp_assign (.dat _) rfl) ?_
  refine awp_seq ?_
  refine awp_joinE (ι := Bool) (fun i => [(0, .dat (vstr v1)), (5, .dat (vstr v2)), (8, .dat (vstr r5.2.1)), (10, .dat (vint r7.1)), (46, .dat (vbool i))]) (fun i => []) (fun i => gateref2_BodyOf_J2 v1 v2 r5 r7 i = some q4) (fun i => rfl) ?_ ?_
  · skip
    refine awp_plain hN rfl ?_
    refine seq_run0 (stp_move (.dat _) rfl) ?_
    refine seq_run0 (stp_not rfl) ?_
    refine seq_run0 (stp_move (.dat _) rfl) ?_
    refine seq_split (j := 2) rfl rfl (fun h9 => ?_) (fun h9 => ?_) rfl
    · have h10 := un3 h9
      replace H := iff_ h10 H
      refine seq_g0 rfl rfl h9 (stp_move (.dat _) rfl) ?_
      refine seq_g0 rfl rfl h9 (stp_errneq (n := r7.2) (show Tryz.prog.underlying 112 = some (.interface (Tryz.prog.methodsAt 112)) from by kernel_rfl) rfl) ?_
      refine seq_run0 (stp_pick_f rfl (bFF h10) rfl) ?_
      refine seq_run0 (stp_move (.dat _) rfl) ?_
      refine seq_split (j := 6) rfl rfl (fun h11 => ?_) (fun h11 => ?_) rfl
      · have h12 := un3 h11
        replace H := iff_ h12 H
        refine seq_g0 rfl rfl h11 (stp_move (.dat _) rfl) ?_
        refine seq_g0 rfl rfl h11 (stp_len_str tyU9 rfl) ?_
        obtain ⟨r13, h14, H⟩ := bnd H
        refine seq_g0 rfl rfl h11 (stp_call (k_gateref2_in (r5.1.length : Int) 1 8 r13 h14) ⟨.inl rfl, .inl rfl, .inl rfl, trivial⟩) ?_
        refine seq_g0 rfl rfl h11 (stp_not rfl) ?_
        refine seq_run0 (stp_pick_f rfl (bFF h12) rfl) ?_
        refine seq_run0 (stp_move (.dat _) rfl) ?_
        refine seq_split (j := 12) rfl rfl (fun h15 => ?_) (fun h15 => ?_) rfl
        · have h16 := un3 h15
          replace H := iff_ h16 H
          refine seq_g0 rfl rfl h15 (stp_move (.dat _) rfl) ?_
          obtain ⟨r17, h18, H⟩ := bnd H
          refine seq_g0 rfl rfl h15 (stp_call (k_gateref2_only r5.1 [48, 49, 50, 51, 52, 53, 54, 55, 56, 57, 97, 98, 99, 100, 101, 102] r17 h18) ⟨.inl rfl, .inl rfl, trivial⟩) ?_
          refine seq_g0 rfl rfl h15 (stp_not rfl) ?_
          refine seq_run0 (stp_pick_f rfl (bFF h16) rfl) ?_
          refine seq_run0 (stp_move (.dat _) rfl) ?_
          refine seq_split (j := 17) rfl rfl (fun h19 => ?_) (fun h19 => ?_) rfl
          · have h20 := un3 h19
            replace H := iff_ h20 H
            refine seq_g0 rfl rfl h19 (stp_move (.dat _) rfl) ?_
            refine seq_g0 rfl rfl h19 (stp_move (.dat _) rfl) ?_
            obtain ⟨r21, h22, H⟩ := bnd H
            refine seq_g0 rfl rfl h19 (stp_call (k_strconv_FormatInt r7.1 16 r21 h22) ⟨.inl rfl, .inl rfl, trivial⟩) ?_
            refine seq_g0 rfl rfl h19 (stp_sneq rfl rfl) ?_
            refine seq_run0 (stp_pick_f rfl (bFF h20) rfl) ?_
            exact ⟨decide (r5.1 ≠ r21), H, ⟨rfl, rfl, rfl, rfl, rfl, trivial⟩, trivial⟩
          · have h23 := un4 h19
            replace H := ift h23 H
            refine seq_skip rfl rfl h19 ?_
            refine seq_skip rfl rfl h19 ?_
            refine seq_skip rfl rfl h19 ?_
            refine seq_skip rfl rfl h19 ?_
            refine seq_run0 (stp_pick_t rfl (bTT h23) rfl) ?_
            exact ⟨true, H, ⟨rfl, rfl, rfl, rfl, rfl, trivial⟩, trivial⟩
        · have h24 := un4 h15
          replace H := ift h24 H
          refine seq_skip rfl rfl h15 ?_
          refine seq_skip rfl rfl h15 ?_
          refine seq_skip rfl rfl h15 ?_
          refine seq_run0 (stp_pick_t rfl (bTT h24) rfl) ?_
          refine seq_run0 (stp_move (.dat _) rfl) ?_
          refine seq_skip rfl rfl rfl ?_
          refine seq_skip rfl rfl rfl ?_
          refine seq_skip rfl rfl rfl ?_
          refine seq_skip rfl rfl rfl ?_
          refine seq_run0 (stp_pick_t rfl rfl rfl) ?_
          exact ⟨true, H, ⟨rfl, rfl, rfl, rfl, rfl, trivial⟩, trivial⟩
      · have h25 := un4 h11
        replace H := ift h25 H
        refine seq_skip rfl rfl h11 ?_
        refine seq_skip rfl rfl h11 ?_
        refine seq_skip rfl rfl h11 ?_
        refine seq_skip rfl rfl h11 ?_
        refine seq_run0 (stp_pick_t rfl (bTT h25) rfl) ?_
        refine seq_run0 (stp_move (.dat _) rfl) ?_
        refine seq_skip rfl rfl rfl ?_
        refine seq_skip rfl rfl rfl ?_
        refine seq_skip rfl rfl rfl ?_
        refine seq_run0 (stp_pick_t rfl rfl rfl) ?_
        refine seq_run0 (stp_move (.dat _) rfl) ?_
        refine seq_skip rfl rfl rfl ?_
        refine seq_skip rfl rfl rfl ?_
        refine seq_skip rfl rfl rfl ?_
        refine seq_skip rfl rfl rfl ?_
        refine seq_run0 (stp_pick_t rfl rfl rfl) ?_
        exact ⟨true, H, ⟨rfl, rfl, rfl, rfl, rfl, trivial⟩, trivial⟩
    · have h26 := un4 h9
      replace H := ift h26 H
      refine seq_skip rfl rfl h9 ?_
      refine seq_skip rfl rfl h9 ?_
      refine seq_run0 (stp_pick_t rfl (bTT h26) rfl) ?_
      refine seq_run0 (stp_move (.dat _) rfl) ?_
      refine seq_skip rfl rfl rfl ?_
      refine seq_skip rfl rfl rfl ?_
      refine seq_skip rfl rfl rfl ?_
      refine seq_skip rfl rfl rfl ?_
      refine seq_run0 (stp_pick_t rfl rfl rfl) ?_
      refine seq_run0 (stp_move (.dat _) rfl) ?_
      refine seq_skip rfl rfl rfl ?_
      refine seq_skip rfl rfl rfl ?_
      refine seq_skip rfl rfl rfl ?_
      refine seq_run0 (stp_pick_t rfl rfl rfl) ?_
      refine seq_run0 (stp_move (.dat _) rfl) ?_
      refine seq_skip rfl rfl rfl ?_
      refine seq_skip rfl rfl rfl ?_
      refine seq_skip rfl rfl rfl ?_
      refine seq_skip rfl rfl rfl ?_
      refine seq_run0 (stp_pick_t rfl rfl rfl) ?_
      exact ⟨true, H, ⟨rfl, rfl, rfl, rfl, rfl, trivial⟩, trivial⟩
  · rintro v27 H
    replace H : gateref2_BodyOf_J2 v1 v2 r5 r7 v27 = some q4 := H
    unfold gateref2_BodyOf_J2 at H
    refine awp_cond _ rfl (fun h28 => ?_) (fun h28 => ?_)
    · replace H := ift h28 H
      refine awp_seq ?_
      refine awp_plain hN rfl ?_
      refine seq_run0 (stp_assign (.dat _) rfl) ?_
      refine seq_run0 (stp_assign (.dat _) rfl) ?_
      refine seq_run0 (stp_assign (.dat _) rfl) ?_
      refine awp_ret ?_
      replace H := retl H hq4
      cases H
      exact ⟨trivial, .inl rfl, .inl rfl, .inl rfl, trivial⟩
    · replace H := iff_ h28 H
      refine awp_skip ?_
      refine awp_seq ?_
      refine awp_seq ?_
      refine awp_plain hN rfl ?_
      refine seq_run0 (stp_move (.dat _) rfl) ?_
      refine seq_run0 (stp_len_str tyU9 rfl) ?_
      refine seq_run0 (stp_move (.dat _) rfl) ?_
      refine seq_run0 (stp_wrap _ rfl rfl (.inl ⟨rfl, rfl⟩)) ?_
      refine seq_run0 (stp_gtr rfl rfl) ?_
      refine awp_cond _ rfl (fun h29 => ?_) (fun h29 => ?_)
      · replace H := ift h29 H
        refine awp_seq ?_
        refine awp_plain hN rfl ?_
        refine seq_run0 (stp_assign (.dat _) rfl) ?_
        refine seq_run0 (stp_assign (.dat _) rfl) ?_
        refine seq_run0 (stp_assign (.dat _) rfl) ?_
        refine awp_ret ?_
        replace H := retl H hq4
        cases H
        exact ⟨trivial, .inl rfl, .inl rfl, .inl rfl, trivial⟩
      · replace H := iff_ h29 H
        refine awp_skip ?_
        refine awp_seq ?_
        refine awp_joinE (ι := Bool) (fun i => [(0, .dat (vstr v1)), (5, .dat (vstr v2)), (8, .dat (vstr r5.2.1)), (10, .dat (vint r7.1)), (64, .dat (vbool i))]) (fun i => []) (fun i => gateref2_BodyOf_J3 v1 v2 r5 r7 i = some q4) (fun i => rfl) ?_ ?_
        · skip
          refine awp_plain hN rfl ?_
          refine seq_run0 (stp_move (.dat _) rfl) ?_
          refine seq_run0 (stp_len_str tyU9 rfl) ?_
          refine seq_run0 (stp_move (.dat _) rfl) ?_
          refine seq_run0 (stp_wrap _ rfl rfl (.inl ⟨rfl, rfl⟩)) ?_
          refine seq_run0 (stp_lss rfl rfl) ?_
          refine seq_run0 (stp_move (.dat _) rfl) ?_
          refine seq_split (j := 5) rfl rfl (fun h30 => ?_) (fun h30 => ?_) rfl
          · have h31 := un3 h30
            replace H := iff_ h31 H
            refine seq_g0 rfl rfl h30 (stp_move (.dat _) rfl) ?_
            refine seq_g0 rfl rfl h30 (stp_move (.dat _) rfl) ?_
            refine seq_g0 rfl rfl h30 (stp_move (.dat _) rfl) ?_
            refine seq_g0 rfl rfl h30 (stp_wrap _ rfl rfl (.inl ⟨rfl, rfl⟩)) ?_
            obtain ⟨l32, h33, H⟩ := bnd H
            refine seq_g0 rfl rfl h30 (t_subS tyU9 rfl rfl rfl h33) ?_
            refine seq_g0 rfl rfl h30 (stp_sneq rfl rfl) ?_
            refine seq_run0 (stp_pick_f rfl (bFF h31) rfl) ?_
            exact ⟨decide (l32 ≠ [13, 10]), H, ⟨rfl, rfl, rfl, rfl, rfl, trivial⟩, trivial⟩
          · have h34 := un4 h30
            replace H := ift h34 H
            refine seq_skip rfl rfl h30 ?_
            refine seq_skip rfl rfl h30 ?_
            refine seq_skip rfl rfl h30 ?_
            refine seq_skip rfl rfl h30 ?_
            refine seq_skip rfl rfl h30 ?_
            refine seq_skip rfl rfl h30 ?_
            refine seq_run0 (stp_pick_t rfl (bTT h34) rfl) ?_
            exact ⟨true, H, ⟨rfl, rfl, rfl, rfl, rfl, trivial⟩, trivial⟩
        · rintro v35 H
          replace H : gateref2_BodyOf_J3 v1 v2 r5 r7 v35 = some q4 := H
          unfold gateref2_BodyOf_J3 at H
          refine awp_cond _ rfl (fun h36 => ?_) (fun h36 => ?_)
          · replace H := ift h36 H
            refine awp_seq ?_
            refine awp_plain hN rfl ?_
            refine seq_run0 (stp_assign (.dat _) rfl) ?_
            refine seq_run0 (stp_assign (.dat _) rfl) ?_
            refine seq_run0 (stp_assign (.dat _) rfl) ?_
            refine awp_ret ?_
            replace H := retl H hq4
            cases H
            exact ⟨trivial, .inl rfl, .inl rfl, .inl rfl, trivial⟩
          · replace H := iff_ h36 H
            refine awp_skip ?_
            refine awp_seq ?_
            refine awp_plain hN rfl ?_
            refine seq_run0 (stp_move (.dat _) rfl) ?_
            refine seq_run0 (stp_move (.dat _) rfl) ?_
            refine seq_run0 (stp_move (.dat _) rfl) ?_
            obtain ⟨l37, h38, H⟩ := bnd H
            refine seq_run0 (t_subS tyU9 rfl rfl rfl h38) ?_
            obtain ⟨h39, H⟩ := gif H
            refine seq_run0 (stp_sadd rfl rfl (Nat.le_trans h39 (by decide))) ?_
            refine seq_run0 (stp_assign (.dat _) rfl) ?_
            refine awp_seq ?_
            refine awp_plain hN rfl ?_
            refine seq_run0 (stp_move (.dat _) rfl) ?_
            refine seq_run0 (stp_move (.dat _) rfl) ?_
            refine seq_run0 (stp_wrap _ rfl rfl (.inl ⟨rfl, rfl⟩)) ?_
            obtain ⟨l40, h41, H⟩ := bnd H
            refine seq_run0 (t_subS tyU9 rfl rfl rfl h41) ?_
            refine seq_run0 (stp_assign (.dat _) rfl) ?_
            refine awp_seq ?_
            refine awp_plain hN rfl ?_
            refine seq_run0 (stp_move (.dat _) rfl) ?_
            refine seq_run0 (stp_eql rfl rfl) ?_
            refine awp_cond _ rfl (fun h42 => ?_) (fun h42 => ?_)
            · replace H := ift h42 H
              refine awp_seq ?_
              refine awp_plain hN rfl ?_
              refine seq_run0 (stp_move (.dat _) rfl) ?_
              refine seq_run0 (stp_move (.dat _) rfl) ?_
              refine seq_run0 (stp_len_str tyU9 rfl) ?_
              refine seq_run0 (stp_move (.dat _) rfl) ?_
              refine seq_run0 (stp_len_str tyU9 rfl) ?_
              refine seq_run0 (stp_wrap _ rfl rfl (.inr (.inl ⟨rfl, rfl⟩))) ?_
              refine seq_run0 (stp_assign (.dat _) rfl) ?_
              refine seq_run0 (stp_assign (.dat _) rfl) ?_
              refine seq_run0 (stp_assign (.dat _) rfl) ?_
              refine awp_ret ?_
              replace H := retl H hq4
              cases H
              exact ⟨trivial, .inl rfl, .inl rfl, .inl rfl, trivial⟩
            · replace H := iff_ h42 H
              refine awp_skip ?_
              exact ⟨_, backl H, ⟨rfl, rfl, rfl, trivial⟩, trivial⟩
theorem k_strings_HasPrefix (s p : Bs) (r : Bool) (H : m_strings_HasPrefix s p = some r) : Fn Tryz.prog 135 [vstr s, vstr p] (resOf [vbool r]) := by
  cases H
  refine fn_of_calls (by kernel_rfl) fun M w vs h => ?_
  have h1 := Ts_vals (us := [.string ⟨s.toArray⟩, .string ⟨p.toArray⟩]) h
  subst h1
  refine (Tryz.strings_HasPrefix ⟨s.toArray⟩ ⟨p.toArray⟩ w).mono ?_
  rintro e w' ⟨rfl, rfl⟩
  exact ⟨_, rfl, rfl, Kp.refl _ _⟩
theorem k_message_isRange (s1 : Bs) (low2 : Int) (high3 : Int) (r : (Bool)) (H : m_message_isRange s1 low2 high3 = some r) : Fn Tryz.prog 138 [vstr s1, vval (.int .u8 low2), vval (.int .u8 high3)] (resOf [vbool r]) := by
  refine ⟨by kernel_rfl, pure_of (us := [vbool r]) Tryz.func138 rfl rfl rfl rfl fun X hN => ?_⟩
  unfold m_message_isRange at H
  refine awp_seq ?_
  refine awp_plain hN rfl ?_
  refine seq_run0 (stp_assign (.dat _) rfl) ?_
  refine awp_seq ?_
  refine awp_seq ?_
  refine awp_plain hN rfl ?_
  refine seq_run0 (stp_move (.dat _) rfl) ?_
  refine seq_run0 (stp_len_str tyU9 rfl) ?_
  refine seq_run0 (stp_move (.dat _) rfl) ?_
  refine awp_block ?_
  obtain ⟨h6, H⟩ := gif H
  refine awp_forL (fun (k4 : Nat) (s : Unit) => [(0, .dat (vstr s1)), (1, .dat (vval (.int .u8 low2))), (2, .dat (vval (.int .u8 high3))), (9, .dat (vint (s1.length : Int))), (10, .dat (vint (k4 : Int)))]) (fun (k4 : Nat) (s : Unit) => []) () H ⟨rfl, rfl, rfl, rfl, rfl, trivial⟩ trivial (fun _ _ => rfl) ?_ ?_
  · rintro ⟨⟩ H
    replace H : message_isRange_E1 = some r := H
    unfold message_isRange_E1 at H
    refine awp_seq ?_
    refine awp_plain hN rfl ?_
    refine seq_run0 (stp_lss rfl rfl) ?_
    refine awp_seq ?_
    refine awp_cond _ rfl (fun h => (lt_t h).elim) (fun h => ?_)
    refine awp_exit ?_
    refine awp_seq ?_
    refine awp_plain hN rfl ?_
    refine seq_run0 (stp_assign (.dat _) rfl) ?_
    refine awp_ret ?_
    cases H
    exact ⟨trivial, .inl rfl, trivial⟩
  · rintro k4 x7 ⟨⟩ q5 h8 h9 H hq5
    replace H : message_isRange_L1 low2 high3 k4 x7 = some q5 := H
    unfold message_isRange_L1 at H
    refine awp_seq ?_
    refine awp_plain hN rfl ?_
    refine seq_run0 (stp_lss rfl rfl) ?_
    refine awp_seq ?_
    refine awp_cond _ rfl (fun h => ?_) (fun h => (lt_f h8 h).elim)
    refine awp_skip ?_
    refine awp_seq ?_
    refine awp_block ?_
    refine awp_seq ?_
    refine awp_plain hN rfl ?_
    refine seq_run0 (stp_move (.dat _) rfl) ?_
    refine seq_run0 (stp_assign (.dat _) rfl) ?_
    refine awp_joinE (ι := Bool) (fun i => [(0, .dat (vstr s1)), (1, .dat (vval (.int .u8 low2))), (2, .dat (vval (.int .u8 high3))), (9, .dat (vint (s1.length : Int))), (10, .dat (vint (k4 : Int))), (24, .dat (vbool i))]) (fun i => []) (fun i => message_isRange_J2 i = some q5) (fun i => rfl) ?_ ?_
    · skip
      refine awp_plain hN rfl ?_
      refine seq_run0 (stp_move (.dat _) rfl) ?_
      refine seq_run0 (stp_move (.dat _) rfl) ?_
      refine seq_run0 (t_byte tyU9 rfl rfl h9) ?_
      refine seq_run0 (stp_move (.dat _) rfl) ?_
      refine seq_run0 (stp_lss rfl rfl) ?_
      refine seq_run0 (stp_move (.dat _) rfl) ?_
      refine seq_split (j := 5) rfl rfl (fun h10 => ?_) (fun h10 => ?_) rfl
      · have h11 := un3 h10
        replace H := iff_ h11 H
        refine seq_g0 rfl rfl h10 (stp_move (.dat _) rfl) ?_
        refine seq_g0 rfl rfl h10 (stp_move (.dat _) rfl) ?_
        refine seq_g0 rfl rfl h10 (t_byte tyU9 rfl rfl h9) ?_
        refine seq_g0 rfl rfl h10 (stp_move (.dat _) rfl) ?_
        refine seq_g0 rfl rfl h10 (stp_gtr rfl rfl) ?_
        refine seq_run0 (stp_pick_f rfl (bFF h11) rfl) ?_
        exact ⟨decide (high3 < (x7.toNat : Int)), H, ⟨rfl, rfl, rfl, rfl, rfl, rfl, trivial⟩, trivial⟩
      · have h12 := un4 h10
        replace H := ift h12 H
        refine seq_skip rfl rfl h10 ?_
        refine seq_skip rfl rfl h10 ?_
        refine seq_skip rfl rfl h10 ?_
        refine seq_skip rfl rfl h10 ?_
        refine seq_skip rfl rfl h10 ?_
        refine seq_run0 (stp_pick_t rfl (bTT h12) rfl) ?_
        exact ⟨true, H, ⟨rfl, rfl, rfl, rfl, rfl, rfl, trivial⟩, trivial⟩
    · rintro v13 H
      replace H : message_isRange_J2 v13 = some q5 := H
      unfold message_isRange_J2 at H
      refine awp_cond _ rfl (fun h14 => ?_) (fun h14 => ?_)
      · replace H := ift h14 H
        refine awp_seq ?_
        refine awp_plain hN rfl ?_
        refine seq_run0 (stp_assign (.dat _) rfl) ?_
        refine awp_ret ?_
        replace H := retl H hq5
        cases H
        exact ⟨trivial, .inl rfl, trivial⟩
      · replace H := iff_ h14 H
        refine awp_skip ?_
        refine awp_plain hN rfl ?_
        refine seq_run0 (stp_add rfl rfl (by omega)) ?_
        refine seq_run0 (stp_move (.dat _) rfl) ?_
        exact ⟨_, backl H, ⟨rfl, rfl, rfl, rfl, rfl, trivial⟩, trivial⟩
theorem k_strings_ContainsAny (s p : Bs) (r : Bool) (H : m_strings_ContainsAny s p = some r) : Fn Tryz.prog 141 [vstr s, vstr p] (resOf [vbool r]) := by
  unfold m_strings_ContainsAny at H
  obtain ⟨⟨⟨h1, h2⟩, h3, h4⟩, h5⟩ := gif H
  cases h5
  refine fn_of_callsG (by kernel_rfl) fun M w vs hM h => ?_
  have hv := Ts_vals (us := [.string ⟨s.toArray⟩, .string ⟨p.toArray⟩]) h
  subst hv
  refine (Tryz.strings_ContainsAny_laid ⟨s.toArray⟩ ⟨p.toArray⟩ w (by simp [ByteArray.size]; omega) (by simp [ByteArray.size]; omega) (fun j b hb => ascB_at h3 j b (by simpa using hb)) (fun j b hb => ascB_at h4 j b (by simpa using hb))).mono ?_
  rintro e w' ⟨rfl, hb⟩
  exact ⟨_, rfl, rfl, Kp.of_below hb⟩

theorem k_message_PathFault (s1 : Bs) (r : (Int)) (H : m_message_PathFault s1 = some r) : Fn Tryz.prog 73 [vstr s1] (resOf [vint r]) := by
  refine ⟨by kernel_rfl, pure_of (us := [vint r]) Tryz.func73 rfl rfl rfl rfl fun X hN => ?_⟩
  unfold m_message_PathFault at H
  refine awp_seq ?_
  refine awp_plain hN rfl ?_
  refine seq_run0 (stp_assign (.dat _) rfl) ?_
  refine awp_seq ?_
  refine awp_joinE (ι := Bool) (fun i => [(19, .dat (vbool i))]) (fun i => []) (fun i => message_PathFault_J1 i = some r) (fun i => rfl) ?_ ?_
  · skip
    refine awp_plain hN rfl ?_
    refine seq_run0 (stp_move (.dat _) rfl) ?_
    refine seq_run0 (stp_len_str tyU9 rfl) ?_
    refine seq_run0 (stp_gtr rfl rfl) ?_
    refine seq_run0 (stp_move (.dat _) rfl) ?_
    refine seq_split (j := 3) rfl rfl (fun h2 => ?_) (fun h2 => ?_) rfl
    · have h3 := un3 h2
      replace H := iff_ h3 H
      refine seq_g0 rfl rfl h2 (stp_move (.dat _) rfl) ?_
      obtain ⟨r4, h5, H⟩ := bnd H
      refine seq_g0 rfl rfl h2 (stp_call (k_strings_HasPrefix s1 [47] r4 h5) ⟨.inl rfl, .inl rfl, trivial⟩) ?_
      refine seq_g0 rfl rfl h2 (stp_not rfl) ?_
      refine seq_run0 (stp_pick_f rfl (bFF h3) rfl) ?_
      refine seq_run0 (stp_move (.dat _) rfl) ?_
      refine seq_split (j := 8) rfl rfl (fun h6 => ?_) (fun h6 => ?_) rfl
      · have h7 := un3 h6
        replace H := iff_ h7 H
        refine seq_g0 rfl rfl h6 (stp_move (.dat _) rfl) ?_
        obtain ⟨r8, h9, H⟩ := bnd H
        refine seq_g0 rfl rfl h6 (stp_call (k_message_isRange s1 33 126 r8 h9) ⟨.inl rfl, .inl rfl, .inl rfl, trivial⟩) ?_
        refine seq_g0 rfl rfl h6 (stp_not rfl) ?_
        refine seq_run0 (stp_pick_f rfl (bFF h7) rfl) ?_
        refine seq_run0 (stp_move (.dat _) rfl) ?_
        refine seq_split (j := 13) rfl rfl (fun h10 => ?_) (fun h10 => ?_) rfl
        · have h11 := un3 h10
          replace H := iff_ h11 H
          refine seq_g0 rfl rfl h10 (stp_move (.dat _) rfl) ?_
          obtain ⟨r12, h13, H⟩ := bnd H
          refine seq_g0 rfl rfl h10 (stp_call (k_strings_ContainsAny s1 [63, 35] r12 h13) ⟨.inl rfl, .inl rfl, trivial⟩) ?_
          refine seq_run0 (stp_pick_f rfl (bFF h11) rfl) ?_
          exact ⟨r12, H, ⟨rfl, trivial⟩, trivial⟩
        · have h14 := un4 h10
          replace H := ift h14 H
          refine seq_skip rfl rfl h10 ?_
          refine seq_skip rfl rfl h10 ?_
          refine seq_run0 (stp_pick_t rfl (bTT h14) rfl) ?_
          exact ⟨true, H, ⟨rfl, trivial⟩, trivial⟩
      · have h15 := un4 h6
        replace H := ift h15 H
        refine seq_skip rfl rfl h6 ?_
        refine seq_skip rfl rfl h6 ?_
        refine seq_skip rfl rfl h6 ?_
        refine seq_run0 (stp_pick_t rfl (bTT h15) rfl) ?_
        refine seq_run0 (stp_move (.dat _) rfl) ?_
        refine seq_skip rfl rfl rfl ?_
        refine seq_skip rfl rfl rfl ?_
        refine seq_run0 (stp_pick_t rfl rfl rfl) ?_
        exact ⟨true, H, ⟨rfl, trivial⟩, trivial⟩
    · have h16 := un4 h2
      replace H := ift h16 H
      refine seq_skip rfl rfl h2 ?_
      refine seq_skip rfl rfl h2 ?_
      refine seq_skip rfl rfl h2 ?_
      refine seq_run0 (stp_pick_t rfl (bTT h16) rfl) ?_
      refine seq_run0 (stp_move (.dat _) rfl) ?_
      refine seq_skip rfl rfl rfl ?_
      refine seq_skip rfl rfl rfl ?_
      refine seq_skip rfl rfl rfl ?_
      refine seq_run0 (stp_pick_t rfl rfl rfl) ?_
      refine seq_run0 (stp_move (.dat _) rfl) ?_
      refine seq_skip rfl rfl rfl ?_
      refine seq_skip rfl rfl rfl ?_
      refine seq_run0 (stp_pick_t rfl rfl rfl) ?_
      exact ⟨true, H, ⟨rfl, trivial⟩, trivial⟩
  · rintro v17 H
    replace H : message_PathFault_J1 v17 = some r := H
    unfold message_PathFault_J1 at H
    refine awp_cond _ rfl (fun h18 => ?_) (fun h18 => ?_)
    · replace H := ift h18 H
      refine awp_seq ?_
      refine awp_plain hN rfl ?_
      refine seq_run0 (stp_assign (.dat _) rfl) ?_
      refine awp_ret ?_
      cases H
      exact ⟨trivial, .inl rfl, trivial⟩
    · replace H := iff_ h18 H
      refine awp_skip ?_
      refine awp_seq ?_
      refine awp_plain hN rfl ?_
      refine seq_run0 (stp_assign (.dat _) rfl) ?_
      refine awp_ret ?_
      cases H
      exact ⟨trivial, .inl rfl, trivial⟩
theorem kb_strings_Builder_WriteByte (l1 : (List Int)) (c2 : Int) (r : (Int × (List Int))) (H : m_strings_Builder_WriteByte l1 c2 = some r) : FnG Tryz.prog 143 [.ptr 0 0, .dat (vval (.int .u8 c2))] [(0, .box (some 0) 110 [.nptr 0, .row 1 l1.length]), (1, .row 5 1 (List.map C_uint8 l1))] (.dat (resOf [verr r.1])) [(0, .box (some 0) 110 [.nptr 0, .row 900 r.2.length]), (900, .row 5 1 (List.map C_uint8 r.2))] := by
  refine fnG_of (by kernel_rfl) Tryz.func143 rfl rfl rfl rfl fun X A hN => ?_
  refine awp_cv ?_
  unfold m_strings_Builder_WriteByte at H
  refine awp_seq ?_
  refine awp_plain hN rfl ?_
  refine seq_run0 (stp_assign (.dat _) rfl) ?_
  refine awp_seq ?_
  refine awp_plain hN rfl ?_
  refine seq_run0 (stp_move (.ptr _ _) rfl) ?_
  refine seq_run2 (stp_cc cc_prog rfl) rfl ?_
  refine awp_seq ?_
  refine awp_plain hN rfl ?_
  refine seq_run0 (stp_move (.ptr _ _) rfl) ?_
  refine seq_run0 (stp_move (.ptr _ _) rfl) ?_
  refine seq_run0 (stp_nilP rfl) ?_
  refine seq_run0 (stp_fldP tyF110_1 rfl) ?_
  refine seq_run1 (stp_load1 tyS46 rfl rfl) rfl ?_
  refine seq_run0 (stp_move (.dat _) rfl) ?_
  refine seq_run0 (stp_dat (u' := vlst (List.map C_uint8 [c2])) (stp_lit [[_]] tyL46 ⟨rfl, .inl ⟨_, rfl, rfl, rfl⟩, rfl, trivial⟩ rfl rfl) rfl) ?_
  obtain ⟨h3, H⟩ := gif H
  refine seq_run2 (t_app tyL46 (fun _ => rfl) rfl rfl rfl ⟨by simp, by simpa using h3⟩ rfl) rfl ?_
  refine seq_run0 (stp_nilP rfl) ?_
  refine seq_run0 (stp_fldP tyF110_1 rfl) ?_
  refine seq_run4 (stp_storeS tyS46 rfl rfl (by rw [List.length_map]) rfl) rfl rfl ?_
  refine awp_seq ?_
  refine awp_plain hN rfl ?_
  refine seq_run0 (stp_assign (.dat _) rfl) ?_
  refine awp_ret ?_
  cases H
  show Cv _ _ _ _
  refine cv_ren (rn [(1, 900)]) [(4, .dat (verr 0))] [(0, .box (some (A.bl 0)) 110 [.nptr 0, .row 1 ((l1 ++ [c2]).length)]), (1, .row 5 1 (List.map C_uint8 (l1 ++ [c2])))] ⟨rfl, trivial⟩ ⟨rfl, rfl, trivial⟩ rfl rfl ?_
  exact ⟨trivial, [(4, .dat (verr 0))], ⟨rfl, trivial⟩, ⟨rfl, rfl, trivial⟩, rfl, .inl ⟨[verr 0], ⟨rfl, trivial⟩, rfl⟩⟩
theorem k_message_isDigit (c1 : Int) (r : (Bool)) (H : m_message_isDigit c1 = some r) : Fn Tryz.prog 192 [vval (.int .u8 c1)] (resOf [vbool r]) := by
  refine ⟨by kernel_rfl, pure_of (us := [vbool r]) Tryz.func192 rfl rfl rfl rfl fun X hN => ?_⟩
  unfold m_message_isDigit at H
  refine awp_seq ?_
  refine awp_plain hN rfl ?_
  refine seq_run0 (stp_assign (.dat _) rfl) ?_
  refine awp_seq ?_
  refine awp_plain hN rfl ?_
  refine seq_run0 (stp_move (.dat _) rfl) ?_
  refine seq_run0 (stp_geq rfl rfl) ?_
  refine seq_run0 (stp_move (.dat _) rfl) ?_
  refine seq_aT rfl rfl (fun hc => stp_move (.dat _) rfl) ?_
  refine seq_aT rfl rfl (fun hc => stp_leq (cnd (c := (decide (48 ≤ c1))) hc) rfl) ?_
  refine seq_run0 (stp_pick_and rfl (fun hb => (cnd (c := (decide (48 ≤ c1))) hb)) rfl) ?_
  refine seq_run0 (stp_assign (.dat _) rfl) ?_
  refine awp_ret ?_
  cases H
  exact ⟨trivial, .inl rfl, trivial⟩
theorem k_message_isHex (c1 : Int) (r : (Bool)) (H : m_message_isHex c1 = some r) : Fn Tryz.prog 207 [vval (.int .u8 c1)] (resOf [vbool r]) := by
  refine ⟨by kernel_rfl, pure_of (us := [vbool r]) Tryz.func207 rfl rfl rfl rfl fun X hN => ?_⟩
  unfold m_message_isHex at H
  refine awp_seq ?_
  refine awp_plain hN rfl ?_
  refine seq_run0 (stp_assign (.dat _) rfl) ?_
  refine awp_seq ?_
  refine awp_plain hN rfl ?_
  refine seq_run0 (stp_move (.dat _) rfl) ?_
  obtain ⟨r2, h3, H⟩ := bnd H
  refine seq_run0 (stp_call (k_message_isDigit c1 r2 h3) ⟨.inl rfl, trivial⟩) ?_
  refine seq_run0 (stp_move (.dat _) rfl) ?_
  refine seq_aF rfl rfl (fun hc => stp_move (.dat _) rfl) ?_
  refine seq_aF rfl rfl (fun hc => stp_geq (cnd (c := (!r2)) hc) rfl) ?_
  refine seq_aF rfl rfl (fun hc => stp_move (.dat _) (cnd (c := (!r2)) hc)) ?_
  refine seq_bT rfl rfl (fun hc => stp_move (.dat _) rfl) ?_
  refine seq_bT rfl rfl (fun hc => stp_leq (cnd (c := ((!r2) && (decide (97 ≤ c1)))) hc) rfl) ?_
  refine seq_aF rfl rfl (fun hc => stp_pick_and (cnd (c := (!r2)) hc) (fun hb => (cnd (c := ((!r2) && (decide (97 ≤ c1)))) (andI hc hb))) rfl) ?_
  refine seq_run0 (stp_pick_or rfl rfl (fun hb => (cnd (c := (!r2)) (notI hb)))) ?_
  refine seq_run0 (stp_move (.dat _) rfl) ?_
  refine seq_aF rfl rfl (fun hc => stp_move (.dat _) rfl) ?_
  refine seq_aF rfl rfl (fun hc => stp_geq (cnd (c := (!(r2 || ((decide (97 ≤ c1)) && (decide (c1 ≤ 102)))))) hc) rfl) ?_
  refine seq_aF rfl rfl (fun hc => stp_move (.dat _) (cnd (c := (!(r2 || ((decide (97 ≤ c1)) && (decide (c1 ≤ 102)))))) hc)) ?_
  refine seq_bT rfl rfl (fun hc => stp_move (.dat _) rfl) ?_
  refine seq_bT rfl rfl (fun hc => stp_leq (cnd (c := ((!(r2 || ((decide (97 ≤ c1)) && (decide (c1 ≤ 102))))) && (decide (65 ≤ c1)))) hc) rfl) ?_
  refine seq_aF rfl rfl (fun hc => stp_pick_and (cnd (c := (!(r2 || ((decide (97 ≤ c1)) && (decide (c1 ≤ 102)))))) hc) (fun hb => (cnd (c := ((!(r2 || ((decide (97 ≤ c1)) && (decide (c1 ≤ 102))))) && (decide (65 ≤ c1)))) (andI hc hb))) rfl) ?_
  refine seq_run0 (stp_pick_or rfl rfl (fun hb => (cnd (c := (!(r2 || ((decide (97 ≤ c1)) && (decide (c1 ≤ 102)))))) (notI hb)))) ?_
  refine seq_run0 (stp_assign (.dat _) rfl) ?_
  refine awp_ret ?_
  cases H
  exact ⟨trivial, .inl rfl, trivial⟩
theorem k_message_isUnit (s1 : Bs) (v2 : Int) (r : (Bool)) (H : m_message_isUnit s1 v2 = some r) : Fn Tryz.prog 156 [vstr s1, vint v2] (resOf [vbool r]) := by
  refine ⟨by kernel_rfl, pure_of (us := [vbool r]) Tryz.func156 rfl rfl rfl rfl fun X hN => ?_⟩
  unfold m_message_isUnit at H
  refine awp_seq ?_
  refine awp_plain hN rfl ?_
  refine seq_run0 (stp_assign (.dat _) rfl) ?_
  refine awp_joinE (ι := Bool) (fun i => [(4, .dat (vbool i))]) (fun i => []) (fun i => message_isUnit_J1 i = some r) (fun i => rfl) ?_ ?_
  · skip
    refine awp_plain hN rfl ?_
    refine seq_run0 (stp_move (.dat _) rfl) ?_
    refine seq_run0 (stp_wrap _ rfl rfl (.inl ⟨rfl, rfl⟩)) ?_
    refine seq_run0 (stp_move (.dat _) rfl) ?_
    refine seq_run0 (stp_len_str tyU9 rfl) ?_
    refine seq_run0 (stp_lss rfl rfl) ?_
    refine seq_run0 (stp_move (.dat _) rfl) ?_
    refine seq_split (j := 5) rfl rfl (fun h3 => ?_) (fun h3 => ?_) rfl
    · have h4 := un1 h3
      replace H := ift h4 H
      refine seq_g0 rfl rfl h3 (stp_move (.dat _) rfl) ?_
      refine seq_g0 rfl rfl h3 (stp_move (.dat _) rfl) ?_
      refine seq_g0 rfl rfl h3 (stp_wrap _ rfl rfl (.inl ⟨rfl, rfl⟩)) ?_
      obtain ⟨x5, h6, H⟩ := bnd H
      refine seq_g0 rfl rfl h3 (t_byteI tyU9 rfl rfl h6) ?_
      obtain ⟨r7, h8, H⟩ := bnd H
      refine seq_g0 rfl rfl h3 (stp_call (k_message_isHex (x5.toNat : Int) r7 h8) ⟨.inl rfl, trivial⟩) ?_
      refine seq_run0 (stp_pick_t rfl (bTT h4) rfl) ?_
      refine seq_run0 (stp_move (.dat _) rfl) ?_
      refine seq_split (j := 12) rfl rfl (fun h9 => ?_) (fun h9 => ?_) rfl
      · have h10 := un1 h9
        replace H := ift h10 H
        refine seq_g0 rfl rfl h9 (stp_move (.dat _) rfl) ?_
        refine seq_g0 rfl rfl h9 (stp_move (.dat _) rfl) ?_
        refine seq_g0 rfl rfl h9 (stp_wrap _ rfl rfl (.inl ⟨rfl, rfl⟩)) ?_
        obtain ⟨x11, h12, H⟩ := bnd H
        refine seq_g0 rfl rfl h9 (t_byteI tyU9 rfl rfl h12) ?_
        obtain ⟨r13, h14, H⟩ := bnd H
        refine seq_g0 rfl rfl h9 (stp_call (k_message_isHex (x11.toNat : Int) r13 h14) ⟨.inl rfl, trivial⟩) ?_
        refine seq_run0 (stp_pick_t rfl (bTT h10) rfl) ?_
        refine seq_run0 (stp_assign (.dat _) rfl) ?_
        exact ⟨r13, H, ⟨rfl, trivial⟩, trivial⟩
      · have h15 := un2 h9
        replace H := iff_ h15 H
        refine seq_skip rfl rfl h9 ?_
        refine seq_skip rfl rfl h9 ?_
        refine seq_skip rfl rfl h9 ?_
        refine seq_skip rfl rfl h9 ?_
        refine seq_skip rfl rfl h9 ?_
        refine seq_run0 (stp_pick_f rfl (bFF h15) rfl) ?_
        refine seq_run0 (stp_assign (.dat _) rfl) ?_
        exact ⟨false, H, ⟨rfl, trivial⟩, trivial⟩
    · have h16 := un2 h3
      replace H := iff_ h16 H
      refine seq_skip rfl rfl h3 ?_
      refine seq_skip rfl rfl h3 ?_
      refine seq_skip rfl rfl h3 ?_
      refine seq_skip rfl rfl h3 ?_
      refine seq_skip rfl rfl h3 ?_
      refine seq_run0 (stp_pick_f rfl (bFF h16) rfl) ?_
      refine seq_run0 (stp_move (.dat _) rfl) ?_
      refine seq_skip rfl rfl rfl ?_
      refine seq_skip rfl rfl rfl ?_
      refine seq_skip rfl rfl rfl ?_
      refine seq_skip rfl rfl rfl ?_
      refine seq_skip rfl rfl rfl ?_
      refine seq_run0 (stp_pick_f rfl rfl rfl) ?_
      refine seq_run0 (stp_assign (.dat _) rfl) ?_
      exact ⟨false, H, ⟨rfl, trivial⟩, trivial⟩
  · rintro v17 H
    replace H : message_isUnit_J1 v17 = some r := H
    unfold message_isUnit_J1 at H
    refine awp_ret ?_
    cases H
    exact ⟨trivial, .inl rfl, trivial⟩
theorem k_strconv_ParseUint (s1 : Bs) (base2 : Int) (bitSize3 : Int) (r : (Int × Int)) (H : m_strconv_ParseUint s1 base2 bitSize3 = some r) : Fn Tryz.prog 160 [vstr s1, vint base2, vint bitSize3] (resOf [vval (.int .u64 r.1), verr r.2]) := by
  refine ⟨by kernel_rfl, pure_of (us := [vval (.int .u64 r.1), verr r.2]) Tryz.func160 rfl rfl rfl rfl fun X hN => ?_⟩
  unfold m_strconv_ParseUint at H
  refine awp_seq ?_
  refine awp_plain hN rfl ?_
  refine seq_run0 (stp_assign (.dat _) rfl) ?_
  refine seq_run0 (stp_assign (.dat _) rfl) ?_
  refine awp_seq ?_
  refine awp_plain hN rfl ?_
  refine seq_run0 (stp_move (.dat _) rfl) ?_
  refine seq_run0 (stp_move (.dat _) rfl) ?_
  refine seq_run0 (stp_move (.dat _) rfl) ?_
  obtain ⟨r4, h5, H⟩ := bnd H
  refine seq_run0 (stp_call (k_internal_strconv_ParseUint s1 base2 bitSize3 r4 h5) ⟨.inl rfl, .inl rfl, .inl rfl, trivial⟩) ?_
  refine seq_run0 (stp_move (.dat _) rfl) ?_
  refine seq_run0 (stp_ext rfl rfl) ?_
  refine seq_run0 (stp_ext rfl rfl) ?_
  refine seq_run0 (stp_assign (.dat _) rfl) ?_
  refine seq_run0 (stp_assign (.dat _) rfl) ?_
  refine awp_seq ?_
  refine awp_seq ?_
  refine awp_plain hN rfl ?_
  refine seq_run0 (stp_move (.dat _) rfl) ?_
  refine seq_run0 (stp_errneq (n := r4.2) (show Tryz.prog.underlying 112 = some (.interface (Tryz.prog.methodsAt 112)) from by kernel_rfl) rfl) ?_
  refine awp_cond _ rfl (fun h6 => ?_) (fun h6 => ?_)
  · replace H := ift h6 H
    refine awp_seq ?_
    refine awp_plain hN rfl ?_
    refine seq_run0 (stp_move (.dat _) rfl) ?_
    refine seq_run0 (stp_move (.dat _) rfl) ?_
    refine seq_run0 (stp_move (.dat _) rfl) ?_
    refine seq_run0 (stp_move (.dat _) rfl) ?_
    refine seq_run0 (stp_move (.dat _) rfl) ?_
    obtain ⟨r7, h8, H⟩ := bnd H
    refine seq_run0 (stp_call (k_strconv_toError [80, 97, 114, 115, 101, 85, 105, 110, 116] s1 base2 bitSize3 r4.2 r7 h8) ⟨.inl rfl, .inl rfl, .inl rfl, .inl rfl, .inl rfl, trivial⟩) ?_
    refine seq_run0 (stp_assign (.dat _) rfl) ?_
    refine seq_run0 (stp_assign (.dat _) rfl) ?_
    refine awp_ret ?_
    cases H
    exact ⟨trivial, .inl rfl, .inl rfl, trivial⟩
  · replace H := iff_ h6 H
    refine awp_skip ?_
    refine awp_seq ?_
    refine awp_plain hN rfl ?_
    refine seq_run0 (stp_move (.dat _) rfl) ?_
    refine seq_run0 (stp_assign (.dat _) rfl) ?_
    refine seq_run0 (stp_assign (.dat _) rfl) ?_
    refine awp_ret ?_
    cases H
    exact ⟨trivial, .inl rfl, .inl rfl, trivial⟩
theorem k_message_unit (s1 : Bs) (v2 : Int) (r : (Int)) (H : m_message_unit s1 v2 = some r) : Fn Tryz.prog 157 [vstr s1, vint v2] (resOf [vval (.int .u8 r)]) := by
  refine ⟨by kernel_rfl, pure_of (us := [vval (.int .u8 r)]) Tryz.func157 rfl rfl rfl rfl fun X hN => ?_⟩
  unfold m_message_unit at H
  refine awp_seq ?_
  refine awp_plain hN rfl ?_
  refine seq_run0 (stp_assign (.dat _) rfl) ?_
  refine awp_seq ?_
  refine awp_plain hN rfl ?_
  refine seq_run0 (stp_move (.dat _) rfl) ?_
  refine seq_run0 (stp_move (.dat _) rfl) ?_
  refine seq_run0 (stp_wrap _ rfl rfl (.inl ⟨rfl, rfl⟩)) ?_
  refine seq_run0 (stp_move (.dat _) rfl) ?_
  refine seq_run0 (stp_wrap _ rfl rfl (.inl ⟨rfl, rfl⟩)) ?_
  obtain ⟨l3, h4, H⟩ := bnd H
  refine seq_run0 (t_subS tyU9 rfl rfl rfl h4) ?_
  obtain ⟨r5, h6, H⟩ := bnd H
  refine seq_run0 (stp_call (k_strconv_ParseUint l3 16 8 r5 h6) ⟨.inl rfl, .inl rfl, .inl rfl, trivial⟩) ?_
  refine seq_run0 (stp_move (.dat _) rfl) ?_
  refine seq_run0 (stp_ext rfl rfl) ?_
  refine seq_run0 (stp_ext rfl rfl) ?_
  refine seq_run0 (stp_assign (.dat _) rfl) ?_
  refine seq_run0 (stp_assign (.dat _) rfl) ?_
  refine awp_seq ?_
  refine awp_seq ?_
  refine awp_plain hN rfl ?_
  refine seq_run0 (stp_move (.dat _) rfl) ?_
  refine seq_run0 (stp_errneq (n := r5.2) (show Tryz.prog.underlying 112 = some (.interface (Tryz.prog.methodsAt 112)) from by kernel_rfl) rfl) ?_
  refine awp_cond _ rfl (fun h7 => ?_) (fun h7 => ?_)
  · replace H := ift h7 H
    refine awp_seq ?_
    refine awp_plain hN rfl ?_
    refine seq_run0 (stp_assign (.dat _) rfl) ?_
    refine awp_ret ?_
    cases H
    exact ⟨trivial, .inl rfl, trivial⟩
  · replace H := iff_ h7 H
    refine awp_skip ?_
    refine awp_seq ?_
    refine awp_plain hN rfl ?_
    refine seq_run0 (stp_move (.dat _) rfl) ?_
    refine seq_run0 (stp_conv tyU166 tyU5 rfl) ?_
    refine seq_run0 (stp_assign (.dat _) rfl) ?_
    refine awp_ret ?_
    cases H
    exact ⟨trivial, .inl rfl, trivial⟩
end Go.Proofs.YtbejggfkfaibeaaGreatDoor
