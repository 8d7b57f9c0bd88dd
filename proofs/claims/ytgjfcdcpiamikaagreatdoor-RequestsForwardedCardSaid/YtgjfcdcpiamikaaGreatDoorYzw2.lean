/- Walks along the models. Printed by a program. -/
import Derived.Test.YtgjfcdcpiamikaaGreatDoorYzw1
namespace Go.Proofs.YtgjfcdcpiamikaaGreatDoor
open Go.RowKit
set_option linter.unusedVariables false
set_option maxRecDepth 20000
set_option maxHeartbeats 2000000
theorem k_internal_strconv_underscoreOK (v1 : Bs) (r : (Bool)) (H : m_internal_strconv_underscoreOK v1 = some r) : Fn Tryz.prog 184 [vstr v1] (resOf [vbool r]) := by
 refine ⟨by kernel_rfl, pure_of (us := [vbool r]) Tryz.func184 rfl rfl rfl rfl fun X hN => ?_⟩
 unfold m_internal_strconv_underscoreOK at H
 refine awp_seq ?_
 refine awp_plain hN rfl ?_
 refine qe rfl ?_
 refine awp_seq ?_
 refine awp_plain hN rfl ?_
 refine qe rfl ?_
 refine awp_seq ?_
 refine awp_plain hN rfl ?_
 refine qe rfl ?_
 refine awp_joinE (ι := Bs) (fun i => [(0, .dat (vstr i)), (3, .dat (vval (.int .i32 94))), (4, .dat (vint 0))]) (fun i => []) (fun i => internal_strconv_underscoreOK_J1 i = some r) (fun i => rfl) ?_ ?_
 ·skip
  refine awp_joinE (ι := Bool) (fun i => [(0, .dat (vstr v1)), (3, .dat (vval (.int .i32 94))), (4, .dat (vint 0)), (18, .dat (vbool i))]) (fun i => []) (fun i => internal_strconv_underscoreOK_J2 v1 i = some r) (fun i => rfl) ?_ ?_
  ·skip
   refine awp_plain hN rfl ?_
   refine qd rfl ?_
   refine seq_run0 (stp_len_str tyU9 rfl) ?_
   refine seq_run0 (stp_geq rfl rfl) ?_
   refine qd rfl ?_
   refine seq_split (j := 3) rfl rfl (fun h2 => ?_) (fun h2 => ?_) rfl
   ·have h3 := un1 h2
    replace H := ift h3 H
    refine seq_g0 rfl rfl h2 (stp_move (.dat _) rfl) ?_
    obtain ⟨x4, h5, H⟩ := bnd H
    refine seq_g0 rfl rfl h2 (t_byte tyU9 rfl rfl h5) ?_
    refine seq_g0 rfl rfl h2 (stp_eql rfl rfl) ?_
    refine seq_g0 rfl rfl h2 (stp_move (.dat _) rfl) ?_
    refine seq_split (j := 7) rfl rfl (fun h6 => ?_) (fun h6 => ?_) rfl
    ·have h7 := un3 h6
     replace H := iff_ h7 H
     refine seq_g0 rfl rfl h6 (stp_move (.dat _) rfl) ?_
     refine seq_g0 rfl rfl h6 (t_byte tyU9 rfl rfl h5) ?_
     refine seq_g0 rfl rfl h6 (stp_eql rfl rfl) ?_
     refine seq_g0 rfl rfl h2 (stp_pick_f rfl (bFF h7) rfl) ?_
     refine seq_run0 (stp_pick_t rfl (bTT h3) rfl) ?_
     exact ⟨decide ((x4.toNat : Int) = 43), H, ⟨rfl, rfl, rfl, rfl, trivial⟩, trivial⟩
    ·have h8 := un4 h6
     replace H := ift h8 H
     refine seq_skip rfl rfl h6 ?_
     refine seq_skip rfl rfl h6 ?_
     refine seq_skip rfl rfl h6 ?_
     refine seq_g0 rfl rfl h2 (stp_pick_t rfl (bTT h8) rfl) ?_
     refine seq_run0 (stp_pick_t rfl (bTT h3) rfl) ?_
     exact ⟨true, H, ⟨rfl, rfl, rfl, rfl, trivial⟩, trivial⟩
   ·have h9 := un2 h2
    replace H := iff_ h9 H
    refine seq_skip rfl rfl h2 ?_
    refine seq_skip rfl rfl h2 ?_
    refine seq_skip rfl rfl h2 ?_
    refine seq_skip rfl rfl h2 ?_
    refine seq_skipU rfl rfl ?_
    refine seq_skipU rfl rfl ?_
    refine seq_skipU rfl rfl ?_
    refine seq_skip rfl rfl h2 ?_
    refine seq_run0 (stp_pick_f rfl (bFF h9) rfl) ?_
    exact ⟨false, H, ⟨rfl, rfl, rfl, rfl, trivial⟩, trivial⟩
  ·rintro v10 H
   replace H : internal_strconv_underscoreOK_J2 v1 v10 = some r := H
   unfold internal_strconv_underscoreOK_J2 at H
   refine awp_cond _ rfl (fun h11 => ?_) (fun h11 => ?_)
   ·replace H := ift h11 H
    refine awp_plain hN rfl ?_
    refine qd rfl ?_
    obtain ⟨l12, h13, H⟩ := bnd H
    refine seq_run0 (t_subS tyU9 rfl rfl rfl h13) ?_
    refine qe rfl ?_
    exact ⟨l12, H, ⟨rfl, rfl, rfl, trivial⟩, trivial⟩
   ·replace H := iff_ h11 H
    refine awp_skip ?_
    exact ⟨v1, H, ⟨rfl, rfl, rfl, trivial⟩, trivial⟩
 ·rintro v14 H
  replace H : internal_strconv_underscoreOK_J1 v14 = some r := H
  unfold internal_strconv_underscoreOK_J1 at H
  refine awp_seq ?_
  refine awp_plain hN rfl ?_
  refine qe rfl ?_
  refine awp_joinE (ι := Int × Int × Bool) (fun i => [(0, .dat (vstr v14)), (3, .dat (vval (.int .i32 i.1))), (4, .dat (vint i.2.1)), (5, .dat (vbool i.2.2))]) (fun i => []) (fun i => internal_strconv_underscoreOK_J3 v14 i.1 i.2.1 i.2.2 = some r) (fun i => rfl) ?_ ?_
  ·skip
   refine awp_joinE (ι := Bool) (fun i => [(0, .dat (vstr v14)), (3, .dat (vval (.int .i32 94))), (4, .dat (vint 0)), (5, .dat (vbool false)), (46, .dat (vbool i))]) (fun i => []) (fun i => internal_strconv_underscoreOK_J4 v14 i = some r) (fun i => rfl) ?_ ?_
   ·skip
    refine awp_plain hN rfl ?_
    refine qd rfl ?_
    refine seq_run0 (stp_len_str tyU9 rfl) ?_
    refine seq_run0 (stp_geq rfl rfl) ?_
    refine qd rfl ?_
    refine seq_split (j := 3) rfl rfl (fun h15 => ?_) (fun h15 => ?_) rfl
    ·have h16 := un1 h15
     replace H := ift h16 H
     refine seq_g0 rfl rfl h15 (stp_move (.dat _) rfl) ?_
     obtain ⟨x17, h18, H⟩ := bnd H
     refine seq_g0 rfl rfl h15 (t_byte tyU9 rfl rfl h18) ?_
     refine seq_g0 rfl rfl h15 (stp_eql rfl rfl) ?_
     refine seq_run0 (stp_pick_t rfl (bTT h16) rfl) ?_
     refine qd rfl ?_
     refine seq_split (j := 8) rfl rfl (fun h19 => ?_) (fun h19 => ?_) rfl
     ·have h20 := un1 h19
      replace H := ift h20 H
      refine seq_g0 rfl rfl h19 (stp_move (.dat _) rfl) ?_
      obtain ⟨x21, h22, H⟩ := bnd H
      refine seq_g0 rfl rfl h19 (t_byte tyU9 rfl rfl h22) ?_
      obtain ⟨r23, h24, H⟩ := bnd H
      refine seq_g0 rfl rfl h19 (stp_call (k_internal_strconv_lower (x21.toNat : Int) r23 h24) ⟨.inl rfl, trivial⟩) ?_
      refine seq_g0 rfl rfl h19 (stp_eql rfl rfl) ?_
      refine seq_g0 rfl rfl h19 (stp_move (.dat _) rfl) ?_
      refine seq_split (j := 13) rfl rfl (fun h25 => ?_) (fun h25 => ?_) rfl
      ·have h26 := un3 h25
       replace H := iff_ h26 H
       refine seq_g0 rfl rfl h25 (stp_move (.dat _) rfl) ?_
       refine seq_g0 rfl rfl h25 (t_byte tyU9 rfl rfl h22) ?_
       obtain ⟨r27, h28, H⟩ := bnd H
       refine seq_g0 rfl rfl h25 (stp_call (k_internal_strconv_lower (x21.toNat : Int) r27 h28) ⟨.inl rfl, trivial⟩) ?_
       refine seq_g0 rfl rfl h25 (stp_eql rfl rfl) ?_
       refine seq_g0 rfl rfl h19 (stp_pick_f rfl (bFF h26) rfl) ?_
       refine seq_g0 rfl rfl h19 (stp_move (.dat _) rfl) ?_
       refine seq_split (j := 19) rfl rfl (fun h29 => ?_) (fun h29 => ?_) rfl
       ·have h30 := un3 h29
        replace H := iff_ h30 H
        refine seq_g0 rfl rfl h29 (stp_move (.dat _) rfl) ?_
        refine seq_g0 rfl rfl h29 (t_byte tyU9 rfl rfl h22) ?_
        obtain ⟨r31, h32, H⟩ := bnd H
        refine seq_g0 rfl rfl h29 (stp_call (k_internal_strconv_lower (x21.toNat : Int) r31 h32) ⟨.inl rfl, trivial⟩) ?_
        refine seq_g0 rfl rfl h29 (stp_eql rfl rfl) ?_
        refine seq_g0 rfl rfl h19 (stp_pick_f rfl (bFF h30) rfl) ?_
        refine seq_run0 (stp_pick_t rfl (bTT h20) rfl) ?_
        exact ⟨decide (r31 = 120), H, ⟨rfl, rfl, rfl, rfl, rfl, trivial⟩, trivial⟩
       ·have h33 := un4 h29
        replace H := ift h33 H
        refine seq_skip rfl rfl h29 ?_
        refine seq_skip rfl rfl h29 ?_
        refine seq_skip rfl rfl h29 ?_
        refine seq_skip rfl rfl h29 ?_
        refine seq_g0 rfl rfl h19 (stp_pick_t rfl (bTT h33) rfl) ?_
        refine seq_run0 (stp_pick_t rfl (bTT h20) rfl) ?_
        exact ⟨true, H, ⟨rfl, rfl, rfl, rfl, rfl, trivial⟩, trivial⟩
      ·have h34 := un4 h25
       replace H := ift h34 H
       refine seq_skip rfl rfl h25 ?_
       refine seq_skip rfl rfl h25 ?_
       refine seq_skip rfl rfl h25 ?_
       refine seq_skip rfl rfl h25 ?_
       refine seq_g0 rfl rfl h19 (stp_pick_t rfl (bTT h34) rfl) ?_
       refine seq_g0 rfl rfl h19 (stp_move (.dat _) rfl) ?_
       refine seq_skip rfl rfl rfl ?_
       refine seq_skip rfl rfl rfl ?_
       refine seq_skip rfl rfl rfl ?_
       refine seq_skip rfl rfl rfl ?_
       refine seq_g0 rfl rfl h19 (stp_pick_t rfl rfl rfl) ?_
       refine seq_run0 (stp_pick_t rfl (bTT h20) rfl) ?_
       exact ⟨true, H, ⟨rfl, rfl, rfl, rfl, rfl, trivial⟩, trivial⟩
     ·have h35 := un2 h19
      replace H := iff_ h35 H
      refine seq_skip rfl rfl h19 ?_
      refine seq_skip rfl rfl h19 ?_
      refine seq_skip rfl rfl h19 ?_
      refine seq_skip rfl rfl h19 ?_
      refine seq_skip rfl rfl h19 ?_
      refine seq_skipU rfl rfl ?_
      refine seq_skipU rfl rfl ?_
      refine seq_skipU rfl rfl ?_
      refine seq_skipU rfl rfl ?_
      refine seq_skip rfl rfl h19 ?_
      refine seq_skip rfl rfl h19 ?_
      refine seq_skipU rfl rfl ?_
      refine seq_skipU rfl rfl ?_
      refine seq_skipU rfl rfl ?_
      refine seq_skipU rfl rfl ?_
      refine seq_skip rfl rfl h19 ?_
      refine seq_run0 (stp_pick_f rfl (bFF h35) rfl) ?_
      exact ⟨false, H, ⟨rfl, rfl, rfl, rfl, rfl, trivial⟩, trivial⟩
    ·have h36 := un2 h15
     replace H := iff_ h36 H
     refine seq_skip rfl rfl h15 ?_
     refine seq_skip rfl rfl h15 ?_
     refine seq_skip rfl rfl h15 ?_
     refine seq_run0 (stp_pick_f rfl (bFF h36) rfl) ?_
     refine qd rfl ?_
     refine seq_skip rfl rfl rfl ?_
     refine seq_skip rfl rfl rfl ?_
     refine seq_skip rfl rfl rfl ?_
     refine seq_skip rfl rfl rfl ?_
     refine seq_skip rfl rfl rfl ?_
     refine seq_skipU rfl rfl ?_
     refine seq_skipU rfl rfl ?_
     refine seq_skipU rfl rfl ?_
     refine seq_skipU rfl rfl ?_
     refine seq_skip rfl rfl rfl ?_
     refine seq_skip rfl rfl rfl ?_
     refine seq_skipU rfl rfl ?_
     refine seq_skipU rfl rfl ?_
     refine seq_skipU rfl rfl ?_
     refine seq_skipU rfl rfl ?_
     refine seq_skip rfl rfl rfl ?_
     refine seq_run0 (stp_pick_f rfl rfl rfl) ?_
     exact ⟨false, H, ⟨rfl, rfl, rfl, rfl, rfl, trivial⟩, trivial⟩
   ·rintro v37 H
    replace H : internal_strconv_underscoreOK_J4 v14 v37 = some r := H
    unfold internal_strconv_underscoreOK_J4 at H
    refine awp_cond _ rfl (fun h38 => ?_) (fun h38 => ?_)
    ·replace H := ift h38 H
     refine awp_seq ?_
     refine awp_plain hN rfl ?_
     refine qe rfl ?_
     refine awp_seq ?_
     refine awp_plain hN rfl ?_
     refine qe rfl ?_
     refine awp_plain hN rfl ?_
     refine qd rfl ?_
     obtain ⟨x39, h40, H⟩ := bnd H
     refine seq_run0 (t_byte tyU9 rfl rfl h40) ?_
     obtain ⟨r41, h42, H⟩ := bnd H
     refine seq_run0 (stp_call (k_internal_strconv_lower (x39.toNat : Int) r41 h42) ⟨.inl rfl, trivial⟩) ?_
     refine seq_run0 (stp_eql rfl rfl) ?_
     refine qe rfl ?_
     exact ⟨(48, 2, decide (r41 = 120)), H, ⟨rfl, rfl, rfl, rfl, trivial⟩, trivial⟩
    ·replace H := iff_ h38 H
     refine awp_skip ?_
     exact ⟨(94, 0, false), H, ⟨rfl, rfl, rfl, rfl, trivial⟩, trivial⟩
  ·rintro ⟨v43, v44, v45⟩ H
   replace H : internal_strconv_underscoreOK_J3 v14 v43 v44 v45 = some r := H
   unfold internal_strconv_underscoreOK_J3 at H
   refine awp_joinE (ι := Int) (fun i => [(3, .dat (vval (.int .i32 i)))]) (fun i => []) (fun i => internal_strconv_underscoreOK_J5 i = some r) (fun i => rfl) ?_ ?_
   ·skip
    refine awp_block ?_
    refine awp_iter (fun (s : Int × Int) => [(0, .dat (vstr v14)), (3, .dat (vval (.int .i32 s.1))), (4, .dat (vint s.2)), (5, .dat (vbool v45))]) (fun (s : Int × Int) => []) (v43, v44) H ⟨rfl, rfl, rfl, rfl, trivial⟩ trivial (fun _ => rfl) ?_
    rintro ⟨v46, v47⟩ q48 H hq48
    replace H : internal_strconv_underscoreOK_L6 v14 v45 v46 v47 = some q48 := H
    unfold internal_strconv_underscoreOK_L6 at H
    refine awp_seq ?_
    refine awp_seq ?_
    refine awp_plain hN rfl ?_
    refine qd rfl ?_
    refine qd rfl ?_
    refine seq_run0 (stp_len_str tyU9 rfl) ?_
    refine seq_run0 (stp_lss rfl rfl) ?_
    refine awp_cond _ rfl (fun h49 => ?_) (fun h49 => ?_)
    ·replace H := ift h49 H
     refine awp_skip ?_
     refine awp_joinE (ι := Int) (fun i => [(0, .dat (vstr v14)), (3, .dat (vval (.int .i32 i))), (4, .dat (vint v47)), (5, .dat (vbool v45))]) (fun i => []) (fun i => internal_strconv_underscoreOK_J7 v47 i = some q48) (fun i => rfl) ?_ ?_
     ·skip
      refine awp_block ?_
      refine awp_seq ?_
      refine awp_joinE (ι := Bool) (fun i => [(0, .dat (vstr v14)), (3, .dat (vval (.int .i32 v46))), (4, .dat (vint v47)), (5, .dat (vbool v45)), (83, .dat (vbool i))]) (fun i => []) (fun i => internal_strconv_underscoreOK_J8 v14 v46 v47 i = some q48) (fun i => rfl) ?_ ?_
      ·skip
       refine awp_plain hN rfl ?_
       refine qd rfl ?_
       refine qd rfl ?_
       obtain ⟨x50, h51, H⟩ := bnd H
       refine seq_run0 (t_byteI tyU9 rfl rfl h51) ?_
       refine seq_run0 (stp_leq rfl rfl) ?_
       refine qd rfl ?_
       refine seq_split (j := 4) rfl rfl (fun h52 => ?_) (fun h52 => ?_) rfl
       ·have h53 := un1 h52
        replace H := ift h53 H
        refine seq_g0 rfl rfl h52 (stp_move (.dat _) rfl) ?_
        refine seq_g0 rfl rfl h52 (stp_move (.dat _) rfl) ?_
        refine seq_g0 rfl rfl h52 (t_byteI tyU9 rfl rfl h51) ?_
        refine seq_g0 rfl rfl h52 (stp_leq rfl rfl) ?_
        refine seq_run0 (stp_pick_t rfl (bTT h53) rfl) ?_
        refine qd rfl ?_
        refine seq_split (j := 10) rfl rfl (fun h54 => ?_) (fun h54 => ?_) rfl
        ·have h55 := un3 h54
         replace H := iff_ h55 H
         refine seq_g0 rfl rfl h54 (stp_move (.dat _) rfl) ?_
         refine seq_g0 rfl rfl h54 (stp_move (.dat _) rfl) ?_
         refine seq_split (j := 12) rfl rfl (fun h56 => ?_) (fun h56 => ?_) rfl
         ·have h57 := un1 h56
          replace H := ift h57 H
          refine seq_g0 rfl rfl h56 (stp_move (.dat _) rfl) ?_
          refine seq_g0 rfl rfl h56 (stp_move (.dat _) rfl) ?_
          refine seq_g0 rfl rfl h56 (t_byteI tyU9 rfl rfl h51) ?_
          obtain ⟨r58, h59, H⟩ := bnd H
          refine seq_g0 rfl rfl h56 (stp_call (k_internal_strconv_lower (x50.toNat : Int) r58 h59) ⟨.inl rfl, trivial⟩) ?_
          refine seq_g0 rfl rfl h56 (stp_leq rfl rfl) ?_
          refine seq_g0 rfl rfl h54 (stp_pick_t rfl (bTT h57) rfl) ?_
          refine seq_g0 rfl rfl h54 (stp_move (.dat _) rfl) ?_
          refine seq_split (j := 19) rfl rfl (fun h60 => ?_) (fun h60 => ?_) rfl
          ·have h61 := un1 h60
           replace H := ift h61 H
           refine seq_g0 rfl rfl h60 (stp_move (.dat _) rfl) ?_
           refine seq_g0 rfl rfl h60 (stp_move (.dat _) rfl) ?_
           refine seq_g0 rfl rfl h60 (t_byteI tyU9 rfl rfl h51) ?_
           obtain ⟨r62, h63, H⟩ := bnd H
           refine seq_g0 rfl rfl h60 (stp_call (k_internal_strconv_lower (x50.toNat : Int) r62 h63) ⟨.inl rfl, trivial⟩) ?_
           refine seq_g0 rfl rfl h60 (stp_leq rfl rfl) ?_
           refine seq_g0 rfl rfl h54 (stp_pick_t rfl (bTT h61) rfl) ?_
           refine seq_run0 (stp_pick_f rfl (bFF h55) rfl) ?_
           exact ⟨decide (r62 ≤ 102), H, ⟨rfl, rfl, rfl, rfl, rfl, trivial⟩, trivial⟩
          ·have h64 := un2 h60
           replace H := iff_ h64 H
           refine seq_skip rfl rfl h60 ?_
           refine seq_skip rfl rfl h60 ?_
           refine seq_skip rfl rfl h60 ?_
           refine seq_skip rfl rfl h60 ?_
           refine seq_skip rfl rfl h60 ?_
           refine seq_g0 rfl rfl h54 (stp_pick_f rfl (bFF h64) rfl) ?_
           refine seq_run0 (stp_pick_f rfl (bFF h55) rfl) ?_
           exact ⟨false, H, ⟨rfl, rfl, rfl, rfl, rfl, trivial⟩, trivial⟩
         ·have h65 := un2 h56
          replace H := iff_ h65 H
          refine seq_skip rfl rfl h56 ?_
          refine seq_skip rfl rfl h56 ?_
          refine seq_skip rfl rfl h56 ?_
          refine seq_skip rfl rfl h56 ?_
          refine seq_skip rfl rfl h56 ?_
          refine seq_g0 rfl rfl h54 (stp_pick_f rfl (bFF h65) rfl) ?_
          refine seq_g0 rfl rfl h54 (stp_move (.dat _) rfl) ?_
          refine seq_skip rfl rfl rfl ?_
          refine seq_skip rfl rfl rfl ?_
          refine seq_skip rfl rfl rfl ?_
          refine seq_skip rfl rfl rfl ?_
          refine seq_skip rfl rfl rfl ?_
          refine seq_g0 rfl rfl h54 (stp_pick_f rfl rfl rfl) ?_
          refine seq_run0 (stp_pick_f rfl (bFF h55) rfl) ?_
          exact ⟨false, H, ⟨rfl, rfl, rfl, rfl, rfl, trivial⟩, trivial⟩
        ·have h66 := un4 h54
         replace H := ift h66 H
         refine seq_skip rfl rfl h54 ?_
         refine seq_skip rfl rfl h54 ?_
         refine seq_skipU rfl rfl ?_
         refine seq_skipU rfl rfl ?_
         refine seq_skipU rfl rfl ?_
         refine seq_skipU rfl rfl ?_
         refine seq_skipU rfl rfl ?_
         refine seq_skip rfl rfl h54 ?_
         refine seq_skip rfl rfl h54 ?_
         refine seq_skipU rfl rfl ?_
         refine seq_skipU rfl rfl ?_
         refine seq_skipU rfl rfl ?_
         refine seq_skipU rfl rfl ?_
         refine seq_skipU rfl rfl ?_
         refine seq_skip rfl rfl h54 ?_
         refine seq_run0 (stp_pick_t rfl (bTT h66) rfl) ?_
         exact ⟨true, H, ⟨rfl, rfl, rfl, rfl, rfl, trivial⟩, trivial⟩
       ·have h67 := un2 h52
        replace H := iff_ h67 H
        refine seq_skip rfl rfl h52 ?_
        refine seq_skip rfl rfl h52 ?_
        refine seq_skip rfl rfl h52 ?_
        refine seq_skip rfl rfl h52 ?_
        refine seq_run0 (stp_pick_f rfl (bFF h67) rfl) ?_
        refine qd rfl ?_
        refine seq_g0 rfl rfl rfl (stp_move (.dat _) rfl) ?_
        refine seq_g0 rfl rfl rfl (stp_move (.dat _) rfl) ?_
        refine seq_split (j := 12) rfl rfl (fun h68 => ?_) (fun h68 => ?_) rfl
        ·have h69 := un1 h68
         replace H := ift h69 H
         refine seq_g0 rfl rfl h68 (stp_move (.dat _) rfl) ?_
         refine seq_g0 rfl rfl h68 (stp_move (.dat _) rfl) ?_
         refine seq_g0 rfl rfl h68 (t_byteI tyU9 rfl rfl h51) ?_
         obtain ⟨r70, h71, H⟩ := bnd H
         refine seq_g0 rfl rfl h68 (stp_call (k_internal_strconv_lower (x50.toNat : Int) r70 h71) ⟨.inl rfl, trivial⟩) ?_
         refine seq_g0 rfl rfl h68 (stp_leq rfl rfl) ?_
         refine seq_g0 rfl rfl rfl (stp_pick_t rfl (bTT h69) rfl) ?_
         refine seq_g0 rfl rfl rfl (stp_move (.dat _) rfl) ?_
         refine seq_split (j := 19) rfl rfl (fun h72 => ?_) (fun h72 => ?_) rfl
         ·have h73 := un1 h72
          replace H := ift h73 H
          refine seq_g0 rfl rfl h72 (stp_move (.dat _) rfl) ?_
          refine seq_g0 rfl rfl h72 (stp_move (.dat _) rfl) ?_
          refine seq_g0 rfl rfl h72 (t_byteI tyU9 rfl rfl h51) ?_
          obtain ⟨r74, h75, H⟩ := bnd H
          refine seq_g0 rfl rfl h72 (stp_call (k_internal_strconv_lower (x50.toNat : Int) r74 h75) ⟨.inl rfl, trivial⟩) ?_
          refine seq_g0 rfl rfl h72 (stp_leq rfl rfl) ?_
          refine seq_g0 rfl rfl rfl (stp_pick_t rfl (bTT h73) rfl) ?_
          refine seq_run0 (stp_pick_f rfl rfl rfl) ?_
          exact ⟨decide (r74 ≤ 102), H, ⟨rfl, rfl, rfl, rfl, rfl, trivial⟩, trivial⟩
         ·have h76 := un2 h72
          replace H := iff_ h76 H
          refine seq_skip rfl rfl h72 ?_
          refine seq_skip rfl rfl h72 ?_
          refine seq_skip rfl rfl h72 ?_
          refine seq_skip rfl rfl h72 ?_
          refine seq_skip rfl rfl h72 ?_
          refine seq_g0 rfl rfl rfl (stp_pick_f rfl (bFF h76) rfl) ?_
          refine seq_run0 (stp_pick_f rfl rfl rfl) ?_
          exact ⟨false, H, ⟨rfl, rfl, rfl, rfl, rfl, trivial⟩, trivial⟩
        ·have h77 := un2 h68
         replace H := iff_ h77 H
         refine seq_skip rfl rfl h68 ?_
         refine seq_skip rfl rfl h68 ?_
         refine seq_skip rfl rfl h68 ?_
         refine seq_skip rfl rfl h68 ?_
         refine seq_skip rfl rfl h68 ?_
         refine seq_g0 rfl rfl rfl (stp_pick_f rfl (bFF h77) rfl) ?_
         refine seq_g0 rfl rfl rfl (stp_move (.dat _) rfl) ?_
         refine seq_skip rfl rfl rfl ?_
         refine seq_skip rfl rfl rfl ?_
         refine seq_skip rfl rfl rfl ?_
         refine seq_skip rfl rfl rfl ?_
         refine seq_skip rfl rfl rfl ?_
         refine seq_g0 rfl rfl rfl (stp_pick_f rfl rfl rfl) ?_
         refine seq_run0 (stp_pick_f rfl rfl rfl) ?_
         exact ⟨false, H, ⟨rfl, rfl, rfl, rfl, rfl, trivial⟩, trivial⟩
      ·rintro v78 H
       replace H : internal_strconv_underscoreOK_J8 v14 v46 v47 v78 = some q48 := H
       unfold internal_strconv_underscoreOK_J8 at H
       refine awp_cond _ rfl (fun h79 => ?_) (fun h79 => ?_)
       ·replace H := ift h79 H
        refine awp_seq ?_
        refine awp_plain hN rfl ?_
        refine qe rfl ?_
        refine awp_exit ?_
        exact ⟨48, H, ⟨rfl, rfl, rfl, rfl, trivial⟩, trivial⟩
       ·replace H := iff_ h79 H
        refine awp_skip ?_
        refine awp_seq ?_
        refine awp_seq ?_
        refine awp_plain hN rfl ?_
        refine qd rfl ?_
        refine qd rfl ?_
        obtain ⟨x80, h81, H⟩ := bnd H
        refine seq_run0 (t_byteI tyU9 rfl rfl h81) ?_
        refine seq_run0 (stp_eql rfl rfl) ?_
        refine awp_cond _ rfl (fun h82 => ?_) (fun h82 => ?_)
        ·replace H := ift h82 H
         refine awp_seq ?_
         refine awp_seq ?_
         refine awp_plain hN rfl ?_
         refine qd rfl ?_
         refine seq_run0 (stp_neq rfl rfl) ?_
         refine awp_cond _ rfl (fun h83 => ?_) (fun h83 => ?_)
         ·replace H := ift h83 H
          refine awp_seq ?_
          refine awp_plain hN rfl ?_
          refine qe rfl ?_
          refine awp_ret ?_
          replace H := retl H hq48
          cases H
          exact ⟨trivial, .inl rfl, trivial⟩
         ·replace H := iff_ h83 H
          refine awp_skip ?_
          refine awp_seq ?_
          refine awp_plain hN rfl ?_
          refine qe rfl ?_
          refine awp_exit ?_
          exact ⟨95, H, ⟨rfl, rfl, rfl, rfl, trivial⟩, trivial⟩
        ·replace H := iff_ h82 H
         refine awp_skip ?_
         refine awp_seq ?_
         refine awp_seq ?_
         refine awp_plain hN rfl ?_
         refine qd rfl ?_
         refine seq_run0 (stp_eql rfl rfl) ?_
         refine awp_cond _ rfl (fun h84 => ?_) (fun h84 => ?_)
         ·replace H := ift h84 H
          refine awp_seq ?_
          refine awp_plain hN rfl ?_
          refine qe rfl ?_
          refine awp_ret ?_
          replace H := retl H hq48
          cases H
          exact ⟨trivial, .inl rfl, trivial⟩
         ·replace H := iff_ h84 H
          refine awp_skip ?_
          refine awp_plain hN rfl ?_
          refine qe rfl ?_
          exact ⟨33, H, ⟨rfl, rfl, rfl, rfl, trivial⟩, trivial⟩
     ·rintro v85 H
      replace H : internal_strconv_underscoreOK_J7 v47 v85 = some q48 := H
      unfold internal_strconv_underscoreOK_J7 at H
      refine awp_plain hN rfl ?_
      refine qd rfl ?_
      refine seq_run0 (stp_wrap _ rfl rfl (.inl ⟨rfl, rfl⟩)) ?_
      refine qe rfl ?_
      exact ⟨_, backl H, ⟨rfl, rfl, rfl, rfl, trivial⟩, trivial⟩
    ·replace H := iff_ h49 H
     refine awp_exit ?_
     replace H := outl H hq48
     exact ⟨v46, H, ⟨rfl, trivial⟩, trivial⟩
   ·rintro v86 H
    replace H : internal_strconv_underscoreOK_J5 v86 = some r := H
    unfold internal_strconv_underscoreOK_J5 at H
    refine awp_seq ?_
    refine awp_plain hN rfl ?_
    refine qd rfl ?_
    refine seq_run0 (stp_neq rfl rfl) ?_
    refine qe rfl ?_
    refine awp_ret ?_
    cases H
    exact ⟨trivial, .inl rfl, trivial⟩
theorem k_internal_strconv_ParseUint (v1 : Bs) (v2 : Int) (v3 : Int) (r : (Int × Int)) (H : m_internal_strconv_ParseUint v1 v2 v3 = some r) : Fn Tryz.prog 171 [vstr v1, vint v2, vint v3] (resOf [vval (.int .u64 r.1), verr r.2]) := by
 refine ⟨by kernel_rfl, pure_of (us := [vval (.int .u64 r.1), verr r.2]) Tryz.func171 rfl rfl rfl rfl fun X hN => ?_⟩
 unfold m_internal_strconv_ParseUint at H
 refine awp_seq ?_
 refine awp_plain hN rfl ?_
 refine qe rfl ?_
 refine qe rfl ?_
 refine awp_seq ?_
 refine awp_seq ?_
 refine awp_plain hN rfl ?_
 refine qd rfl ?_
 refine seq_run0 (stp_seql rfl rfl) ?_
 refine awp_cond _ rfl (fun h4 => ?_) (fun h4 => ?_)
 ·replace H := ift h4 H
  refine awp_seq ?_
  refine awp_plain hN rfl ?_
  refine seq_run0 (stp_dat (u' := verr 2) (stp_mkErr (show Tryz.prog.underlying 169 = some (.int .i64) from by kernel_rfl) rfl) rfl) ?_
  refine qe rfl ?_
  refine qe rfl ?_
  refine awp_ret ?_
  cases H
  exact ⟨trivial, .inl rfl, .inl rfl, trivial⟩
 ·replace H := iff_ h4 H
  refine awp_skip ?_
  refine awp_seq ?_
  refine awp_plain hN rfl ?_
  refine qd rfl ?_
  refine seq_run0 (stp_eql rfl rfl) ?_
  refine qe rfl ?_
  refine awp_seq ?_
  refine awp_plain hN rfl ?_
  refine qd rfl ?_
  refine qe rfl ?_
  refine awp_joinE (ι := Bs × Int) (fun i => [(0, .dat (vstr i.1)), (1, .dat (vint i.2)), (2, .dat (vint v3)), (8, .dat (vbool (decide (v2 = 0)))), (9, .dat (vstr v1))]) (fun i => []) (fun i => internal_strconv_ParseUint_J1 v1 v2 v3 i.1 i.2 = some r) (fun i => rfl) ?_ ?_
  ·skip
   refine awp_block ?_
   refine awp_seq ?_
   refine awp_plain hN rfl ?_
   refine qd rfl ?_
   refine seq_run0 (stp_leq rfl rfl) ?_
   refine qd rfl ?_
   refine seq_aT rfl rfl (fun hc => stp_move (.dat _) rfl) ?_
   refine seq_aT rfl rfl (fun hc => stp_leq (cnd (c := (decide (2 ≤ v2))) hc) rfl) ?_
   refine seq_run0 (stp_pick_and rfl (fun hb => (cnd (c := (decide (2 ≤ v2))) hb)) rfl) ?_
   refine qe rfl ?_
   refine awp_cond _ rfl (fun h5 => ?_) (fun h5 => ?_)
   ·replace H := ift h5 H
    refine awp_skip ?_
    exact ⟨(v1, v2), H, ⟨rfl, rfl, rfl, rfl, rfl, trivial⟩, trivial⟩
   ·replace H := iff_ h5 H
    refine awp_seq ?_
    refine awp_plain hN rfl ?_
    refine qd rfl ?_
    refine seq_run0 (stp_eql rfl rfl) ?_
    refine qe rfl ?_
    refine awp_cond _ rfl (fun h6 => ?_) (fun h6 => ?_)
    ·replace H := ift h6 H
     refine awp_seq ?_
     refine awp_plain hN rfl ?_
     refine qe rfl ?_
     refine awp_seq ?_
     refine awp_plain hN rfl ?_
     refine qd rfl ?_
     obtain ⟨x7, h8, H⟩ := bnd H
     refine seq_run0 (t_byte tyU9 rfl rfl h8) ?_
     refine seq_run0 (stp_eql rfl rfl) ?_
     refine awp_cond _ rfl (fun h9 => ?_) (fun h9 => ?_)
     ·replace H := ift h9 H
      refine awp_block ?_
      refine awp_joinE (ι := Bool) (fun i => [(0, .dat (vstr v1)), (2, .dat (vint v3)), (8, .dat (vbool (decide (v2 = 0)))), (9, .dat (vstr v1)), (40, .dat (vbool i))]) (fun i => []) (fun i => internal_strconv_ParseUint_J2 v1 v2 v3 i = some r) (fun i => rfl) ?_ ?_
      ·skip
       refine awp_plain hN rfl ?_
       refine qd rfl ?_
       refine seq_run0 (stp_len_str tyU9 rfl) ?_
       refine seq_run0 (stp_geq rfl rfl) ?_
       refine qd rfl ?_
       refine seq_split (j := 3) rfl rfl (fun h10 => ?_) (fun h10 => ?_) rfl
       ·have h11 := un1 h10
        replace H := ift h11 H
        refine seq_g0 rfl rfl h10 (stp_move (.dat _) rfl) ?_
        obtain ⟨x12, h13, H⟩ := bnd H
        refine seq_g0 rfl rfl h10 (t_byte tyU9 rfl rfl h13) ?_
        obtain ⟨r14, h15, H⟩ := bnd H
        refine seq_g0 rfl rfl h10 (stp_call (k_internal_strconv_lower (x12.toNat : Int) r14 h15) ⟨.inl rfl, trivial⟩) ?_
        refine seq_g0 rfl rfl h10 (stp_eql rfl rfl) ?_
        refine seq_run0 (stp_pick_t rfl (bTT h11) rfl) ?_
        refine qe rfl ?_
        exact ⟨decide (r14 = 98), H, ⟨rfl, rfl, rfl, rfl, rfl, trivial⟩, trivial⟩
       ·have h16 := un2 h10
        replace H := iff_ h16 H
        refine seq_skip rfl rfl h10 ?_
        refine seq_skip rfl rfl h10 ?_
        refine seq_skip rfl rfl h10 ?_
        refine seq_skip rfl rfl h10 ?_
        refine seq_run0 (stp_pick_f rfl (bFF h16) rfl) ?_
        refine qe rfl ?_
        exact ⟨false, H, ⟨rfl, rfl, rfl, rfl, rfl, trivial⟩, trivial⟩
      ·rintro v17 H
       replace H : internal_strconv_ParseUint_J2 v1 v2 v3 v17 = some r := H
       unfold internal_strconv_ParseUint_J2 at H
       refine awp_cond _ rfl (fun h18 => ?_) (fun h18 => ?_)
       ·replace H := ift h18 H
        refine awp_seq ?_
        refine awp_plain hN rfl ?_
        refine qe rfl ?_
        refine awp_plain hN rfl ?_
        refine qd rfl ?_
        obtain ⟨l19, h20, H⟩ := bnd H
        refine seq_run0 (t_subS tyU9 rfl rfl rfl h20) ?_
        refine qe rfl ?_
        exact ⟨(l19, 2), H, ⟨rfl, rfl, rfl, rfl, rfl, trivial⟩, trivial⟩
       ·replace H := iff_ h18 H
        refine awp_joinE (ι := Bool) (fun i => [(0, .dat (vstr v1)), (2, .dat (vint v3)), (8, .dat (vbool (decide (v2 = 0)))), (9, .dat (vstr v1)), (52, .dat (vbool i))]) (fun i => []) (fun i => internal_strconv_ParseUint_J3 v1 v2 v3 i = some r) (fun i => rfl) ?_ ?_
        ·skip
         refine awp_plain hN rfl ?_
         refine qd rfl ?_
         refine seq_run0 (stp_len_str tyU9 rfl) ?_
         refine seq_run0 (stp_geq rfl rfl) ?_
         refine qd rfl ?_
         refine seq_split (j := 3) rfl rfl (fun h21 => ?_) (fun h21 => ?_) rfl
         ·have h22 := un1 h21
          replace H := ift h22 H
          refine seq_g0 rfl rfl h21 (stp_move (.dat _) rfl) ?_
          obtain ⟨x23, h24, H⟩ := bnd H
          refine seq_g0 rfl rfl h21 (t_byte tyU9 rfl rfl h24) ?_
          obtain ⟨r25, h26, H⟩ := bnd H
          refine seq_g0 rfl rfl h21 (stp_call (k_internal_strconv_lower (x23.toNat : Int) r25 h26) ⟨.inl rfl, trivial⟩) ?_
          refine seq_g0 rfl rfl h21 (stp_eql rfl rfl) ?_
          refine seq_run0 (stp_pick_t rfl (bTT h22) rfl) ?_
          refine qe rfl ?_
          exact ⟨decide (r25 = 111), H, ⟨rfl, rfl, rfl, rfl, rfl, trivial⟩, trivial⟩
         ·have h27 := un2 h21
          replace H := iff_ h27 H
          refine seq_skip rfl rfl h21 ?_
          refine seq_skip rfl rfl h21 ?_
          refine seq_skip rfl rfl h21 ?_
          refine seq_skip rfl rfl h21 ?_
          refine seq_run0 (stp_pick_f rfl (bFF h27) rfl) ?_
          refine qe rfl ?_
          exact ⟨false, H, ⟨rfl, rfl, rfl, rfl, rfl, trivial⟩, trivial⟩
        ·rintro v28 H
         replace H : internal_strconv_ParseUint_J3 v1 v2 v3 v28 = some r := H
         unfold internal_strconv_ParseUint_J3 at H
         refine awp_cond _ rfl (fun h29 => ?_) (fun h29 => ?_)
         ·replace H := ift h29 H
          refine awp_seq ?_
          refine awp_plain hN rfl ?_
          refine qe rfl ?_
          refine awp_plain hN rfl ?_
          refine qd rfl ?_
          obtain ⟨l30, h31, H⟩ := bnd H
          refine seq_run0 (t_subS tyU9 rfl rfl rfl h31) ?_
          refine qe rfl ?_
          exact ⟨(l30, 8), H, ⟨rfl, rfl, rfl, rfl, rfl, trivial⟩, trivial⟩
         ·replace H := iff_ h29 H
          refine awp_joinE (ι := Bool) (fun i => [(0, .dat (vstr v1)), (2, .dat (vint v3)), (8, .dat (vbool (decide (v2 = 0)))), (9, .dat (vstr v1)), (64, .dat (vbool i))]) (fun i => []) (fun i => internal_strconv_ParseUint_J4 v1 v2 v3 i = some r) (fun i => rfl) ?_ ?_
          ·skip
           refine awp_plain hN rfl ?_
           refine qd rfl ?_
           refine seq_run0 (stp_len_str tyU9 rfl) ?_
           refine seq_run0 (stp_geq rfl rfl) ?_
           refine qd rfl ?_
           refine seq_split (j := 3) rfl rfl (fun h32 => ?_) (fun h32 => ?_) rfl
           ·have h33 := un1 h32
            replace H := ift h33 H
            refine seq_g0 rfl rfl h32 (stp_move (.dat _) rfl) ?_
            obtain ⟨x34, h35, H⟩ := bnd H
            refine seq_g0 rfl rfl h32 (t_byte tyU9 rfl rfl h35) ?_
            obtain ⟨r36, h37, H⟩ := bnd H
            refine seq_g0 rfl rfl h32 (stp_call (k_internal_strconv_lower (x34.toNat : Int) r36 h37) ⟨.inl rfl, trivial⟩) ?_
            refine seq_g0 rfl rfl h32 (stp_eql rfl rfl) ?_
            refine seq_run0 (stp_pick_t rfl (bTT h33) rfl) ?_
            refine qe rfl ?_
            exact ⟨decide (r36 = 120), H, ⟨rfl, rfl, rfl, rfl, rfl, trivial⟩, trivial⟩
           ·have h38 := un2 h32
            replace H := iff_ h38 H
            refine seq_skip rfl rfl h32 ?_
            refine seq_skip rfl rfl h32 ?_
            refine seq_skip rfl rfl h32 ?_
            refine seq_skip rfl rfl h32 ?_
            refine seq_run0 (stp_pick_f rfl (bFF h38) rfl) ?_
            refine qe rfl ?_
            exact ⟨false, H, ⟨rfl, rfl, rfl, rfl, rfl, trivial⟩, trivial⟩
          ·rintro v39 H
           replace H : internal_strconv_ParseUint_J4 v1 v2 v3 v39 = some r := H
           unfold internal_strconv_ParseUint_J4 at H
           refine awp_cond _ rfl (fun h40 => ?_) (fun h40 => ?_)
           ·replace H := ift h40 H
            refine awp_seq ?_
            refine awp_plain hN rfl ?_
            refine qe rfl ?_
            refine awp_plain hN rfl ?_
            refine qd rfl ?_
            obtain ⟨l41, h42, H⟩ := bnd H
            refine seq_run0 (t_subS tyU9 rfl rfl rfl h42) ?_
            refine qe rfl ?_
            exact ⟨(l41, 16), H, ⟨rfl, rfl, rfl, rfl, rfl, trivial⟩, trivial⟩
           ·replace H := iff_ h40 H
            refine awp_seq ?_
            refine awp_plain hN rfl ?_
            refine qe rfl ?_
            refine awp_plain hN rfl ?_
            refine qd rfl ?_
            obtain ⟨l43, h44, H⟩ := bnd H
            refine seq_run0 (t_subS tyU9 rfl rfl rfl h44) ?_
            refine qe rfl ?_
            exact ⟨(l43, 8), H, ⟨rfl, rfl, rfl, rfl, rfl, trivial⟩, trivial⟩
     ·replace H := iff_ h9 H
      refine awp_skip ?_
      exact ⟨(v1, 10), H, ⟨rfl, rfl, rfl, rfl, rfl, trivial⟩, trivial⟩
    ·replace H := iff_ h6 H
     refine awp_seq ?_
     refine awp_plain hN rfl ?_
     refine seq_run0 (stp_dat (u' := verr 3) (stp_mkErr (show Tryz.prog.underlying 169 = some (.int .i64) from by kernel_rfl) rfl) rfl) ?_
     refine qe rfl ?_
     refine qe rfl ?_
     refine awp_ret ?_
     cases H
     exact ⟨trivial, .inl rfl, .inl rfl, trivial⟩
  ·rintro ⟨v45, v46⟩ H
   replace H : internal_strconv_ParseUint_J1 v1 v2 v3 v45 v46 = some r := H
   unfold internal_strconv_ParseUint_J1 at H
   refine awp_joinE (ι := Int) (fun i => [(0, .dat (vstr v45)), (1, .dat (vint v46)), (2, .dat (vint i)), (8, .dat (vbool (decide (v2 = 0)))), (9, .dat (vstr v1))]) (fun i => []) (fun i => internal_strconv_ParseUint_J5 v1 v2 v45 v46 i = some r) (fun i => rfl) ?_ ?_
   ·skip
    refine awp_seq ?_
    refine awp_plain hN rfl ?_
    refine qd rfl ?_
    refine seq_run0 (stp_eql rfl rfl) ?_
    refine awp_cond _ rfl (fun h47 => ?_) (fun h47 => ?_)
    ·replace H := ift h47 H
     refine awp_plain hN rfl ?_
     refine qe rfl ?_
     exact ⟨64, H, ⟨rfl, rfl, rfl, rfl, rfl, trivial⟩, trivial⟩
    ·replace H := iff_ h47 H
     refine awp_seq ?_
     refine awp_plain hN rfl ?_
     refine qd rfl ?_
     refine seq_run0 (stp_lss rfl rfl) ?_
     refine qd rfl ?_
     refine seq_aF rfl rfl (fun hc => stp_move (.dat _) rfl) ?_
     refine seq_aF rfl rfl (fun hc => stp_gtr (cnd (c := (!(decide (v3 < 0)))) hc) rfl) ?_
     refine seq_run0 (stp_pick_or rfl rfl (fun hb => (cnd (c := (!(decide (v3 < 0)))) (notI hb)))) ?_
     refine awp_cond _ rfl (fun h48 => ?_) (fun h48 => ?_)
     ·replace H := ift h48 H
      refine awp_seq ?_
      refine awp_plain hN rfl ?_
      refine seq_run0 (stp_dat (u' := verr 4) (stp_mkErr (show Tryz.prog.underlying 169 = some (.int .i64) from by kernel_rfl) rfl) rfl) ?_
      refine qe rfl ?_
      refine qe rfl ?_
      refine awp_ret ?_
      cases H
      exact ⟨trivial, .inl rfl, .inl rfl, trivial⟩
     ·replace H := iff_ h48 H
      refine awp_skip ?_
      exact ⟨v3, H, ⟨rfl, rfl, rfl, rfl, rfl, trivial⟩, trivial⟩
   ·rintro v49 H
    replace H : internal_strconv_ParseUint_J5 v1 v2 v45 v46 v49 = some r := H
    unfold internal_strconv_ParseUint_J5 at H
    refine awp_seq ?_
    refine awp_plain hN rfl ?_
    refine qe rfl ?_
    refine awp_joinE (ι := Int) (fun i => [(0, .dat (vstr v45)), (1, .dat (vint v46)), (2, .dat (vint v49)), (8, .dat (vbool (decide (v2 = 0)))), (9, .dat (vstr v1)), (10, .dat (vval (.int .u64 i)))]) (fun i => []) (fun i => internal_strconv_ParseUint_J6 v1 v2 v45 v46 v49 i = some r) (fun i => rfl) ?_ ?_
    ·skip
     refine awp_seq ?_
     refine awp_plain hN rfl ?_
     refine qd rfl ?_
     refine awp_block ?_
     refine awp_seq ?_
     refine awp_plain hN rfl ?_
     refine seq_run0 (stp_eql rfl rfl) ?_
     refine qe rfl ?_
     refine awp_cond _ rfl (fun h50 => ?_) (fun h50 => ?_)
     ·replace H := ift h50 H
      refine awp_plain hN rfl ?_
      refine qe rfl ?_
      exact ⟨1844674407370955162, H, ⟨rfl, rfl, rfl, rfl, rfl, rfl, trivial⟩, trivial⟩
     ·replace H := iff_ h50 H
      refine awp_seq ?_
      refine awp_plain hN rfl ?_
      refine seq_run0 (stp_eql rfl rfl) ?_
      refine qe rfl ?_
      refine awp_cond _ rfl (fun h51 => ?_) (fun h51 => ?_)
      ·replace H := ift h51 H
       refine awp_plain hN rfl ?_
       refine qe rfl ?_
       exact ⟨1152921504606846976, H, ⟨rfl, rfl, rfl, rfl, rfl, rfl, trivial⟩, trivial⟩
      ·replace H := iff_ h51 H
       refine awp_plain hN rfl ?_
       refine qd rfl ?_
       refine seq_run0 (stp_conv tyU3 tyU107 rfl) ?_
       obtain ⟨h52, H⟩ := gif H
       refine seq_run0 (stp_quoK rfl rfl h52) ?_
       refine seq_run0 (stp_wrap _ rfl rfl (.inl ⟨rfl, rfl⟩)) ?_
       refine qe rfl ?_
       exact ⟨IntKind.wrap .u64 ((IntKind.wrap .u64 (Int.tdiv 18446744073709551615 (IntKind.wrap .u64 v46))) + 1), H, ⟨rfl, rfl, rfl, rfl, rfl, rfl, trivial⟩, trivial⟩
    ·rintro v53 H
     replace H : internal_strconv_ParseUint_J6 v1 v2 v45 v46 v49 v53 = some r := H
     unfold internal_strconv_ParseUint_J6 at H
     refine awp_seq ?_
     refine awp_plain hN rfl ?_
     refine qd rfl ?_
     refine seq_run0 (stp_conv tyU3 tyU74 rfl) ?_
     obtain ⟨h54, H⟩ := gif H
     refine seq_run0 (stp_dat (stp_shl rfl rfl h54) rfl) ?_
     refine seq_run0 (stp_wrap _ rfl rfl (.inr (.inl ⟨rfl, rfl⟩))) ?_
     refine qe rfl ?_
     refine awp_seq ?_
     refine awp_plain hN rfl ?_
     refine qe rfl ?_
     refine awp_seq ?_
     refine awp_plain hN rfl ?_
     refine qe rfl ?_
     refine awp_seq ?_
     refine awp_seq ?_
     refine awp_plain hN rfl ?_
     refine qd rfl ?_
     refine seq_run0 (stp_convS2B (C := C_uint8) tyU9 tyU78 tyU5 (fun _ => rfl) rfl) ?_
     refine seq_run0 (t_len tyU78 rfl) ?_
     refine qd rfl ?_
     refine awp_block ?_
     obtain ⟨h59, H⟩ := gif H
     refine awp_forL (fun (k57 : Nat) (s : Bool × Int) => [(1, .dat (vint v46)), (8, .dat (vbool (decide (v2 = 0)))), (9, .dat (vstr v1)), (10, .dat (vval (.int .u64 v53))), (11, .dat (vval (.int .u64 (IntKind.wrap .u64 ((shl_ .u64 1 (IntKind.wrap .u64 v49)) - 1))))), (12, .dat (vbool s.1)), (13, .dat (vval (.int .u64 s.2))), (99, .dat (vlst (List.map C_uint8 (numsB v45)))), (100, .dat (vint ((numsB v45).length : Int))), (101, .dat (vint (k57 : Int)))]) (fun (k57 : Nat) (s : Bool × Int) => []) (false, 0) H ⟨rfl, rfl, rfl, rfl, rfl, rfl, rfl, rfl, rfl, rfl, trivial⟩ trivial (fun _ _ => rfl) ?_ ?_
     ·rintro ⟨v55, v56⟩ H
      replace H : internal_strconv_ParseUint_E7 v1 v55 v56 = some r := H
      unfold internal_strconv_ParseUint_E7 at H
      refine awp_seq ?_
      refine awp_plain hN rfl ?_
      refine seq_run0 (stp_lss rfl rfl) ?_
      refine awp_seq ?_
      refine awp_cond _ rfl (fun h => (lt_t h).elim) (fun h => ?_)
      refine awp_exit ?_
      refine awp_seq ?_
      refine awp_joinE (ι := Bool) (fun i => [(13, .dat (vval (.int .u64 v56))), (169, .dat (vbool i))]) (fun i => []) (fun i => internal_strconv_ParseUint_J8 v56 i = some r) (fun i => rfl) ?_ ?_
      ·skip
       refine awp_plain hN rfl ?_
       refine qd rfl ?_
       refine qd rfl ?_
       refine seq_split (j := 1) rfl rfl (fun h61 => ?_) (fun h61 => ?_) rfl
       ·have h62 := un1 h61
        replace H := ift h62 H
        refine seq_g0 rfl rfl h61 (stp_move (.dat _) rfl) ?_
        obtain ⟨r63, h64, H⟩ := bnd H
        refine seq_g0 rfl rfl h61 (stp_call (k_internal_strconv_underscoreOK v1 r63 h64) ⟨.inl rfl, trivial⟩) ?_
        refine seq_g0 rfl rfl h61 (stp_not rfl) ?_
        refine seq_run0 (stp_pick_t rfl (bTT h62) rfl) ?_
        exact ⟨!r63, H, ⟨rfl, rfl, trivial⟩, trivial⟩
       ·have h65 := un2 h61
        replace H := iff_ h65 H
        refine seq_skip rfl rfl h61 ?_
        refine seq_skip rfl rfl h61 ?_
        refine seq_skip rfl rfl h61 ?_
        refine seq_run0 (stp_pick_f rfl (bFF h65) rfl) ?_
        exact ⟨false, H, ⟨rfl, rfl, trivial⟩, trivial⟩
      ·rintro v66 H
       replace H : internal_strconv_ParseUint_J8 v56 v66 = some r := H
       unfold internal_strconv_ParseUint_J8 at H
       refine awp_cond _ rfl (fun h67 => ?_) (fun h67 => ?_)
       ·replace H := ift h67 H
        refine awp_seq ?_
        refine awp_plain hN rfl ?_
        refine seq_run0 (stp_dat (u' := verr 2) (stp_mkErr (show Tryz.prog.underlying 169 = some (.int .i64) from by kernel_rfl) rfl) rfl) ?_
        refine qe rfl ?_
        refine qe rfl ?_
        refine awp_ret ?_
        cases H
        exact ⟨trivial, .inl rfl, .inl rfl, trivial⟩
       ·replace H := iff_ h67 H
        refine awp_skip ?_
        refine awp_seq ?_
        refine awp_plain hN rfl ?_
        refine qd rfl ?_
        refine qe rfl ?_
        refine qe rfl ?_
        refine awp_ret ?_
        cases H
        exact ⟨trivial, .inl rfl, .inl rfl, trivial⟩
     ·rintro k57 x60 ⟨v55, v56⟩ q58 h68 h69 H hq58
      replace H : internal_strconv_ParseUint_L7 v2 v46 v49 v53 k57 x60 v55 v56 = some q58 := H
      unfold internal_strconv_ParseUint_L7 at H
      refine awp_seq ?_
      refine awp_plain hN rfl ?_
      refine seq_run0 (stp_lss rfl rfl) ?_
      refine awp_seq ?_
      refine awp_cond _ rfl (fun h => ?_) (fun h => (lt_f h68 h).elim)
      refine awp_skip ?_
      refine awp_joinE (ι := Bool × Int) (fun i => [(1, .dat (vint v46)), (8, .dat (vbool (decide (v2 = 0)))), (9, .dat (vstr v1)), (10, .dat (vval (.int .u64 v53))), (11, .dat (vval (.int .u64 (IntKind.wrap .u64 ((shl_ .u64 1 (IntKind.wrap .u64 v49)) - 1))))), (12, .dat (vbool i.1)), (13, .dat (vval (.int .u64 i.2))), (99, .dat (vlst (List.map C_uint8 (numsB v45)))), (100, .dat (vint ((numsB v45).length : Int))), (101, .dat (vint (k57 : Int)))]) (fun i => []) (fun i => internal_strconv_ParseUint_J9 i.1 i.2 = some q58) (fun i => rfl) ?_ ?_
      ·skip
       refine awp_block ?_
       refine awp_seq ?_
       refine awp_plain hN rfl ?_
       refine seq_run0 (t_idx tyE78 (fun _ => rfl) rfl rfl h69) ?_
       refine seq_run0 (stp_loadE1 tyS5 rfl (map_at h69) rfl) ?_
       refine qe rfl ?_
       refine awp_seq ?_
       refine awp_plain hN rfl ?_
       refine qe rfl ?_
       refine awp_joinE (ι := Int) (fun i => [(1, .dat (vint v46)), (8, .dat (vbool (decide (v2 = 0)))), (9, .dat (vstr v1)), (10, .dat (vval (.int .u64 v53))), (11, .dat (vval (.int .u64 (IntKind.wrap .u64 ((shl_ .u64 1 (IntKind.wrap .u64 v49)) - 1))))), (12, .dat (vbool v55)), (13, .dat (vval (.int .u64 v56))), (16, .dat (vval (.int .u8 i))), (99, .dat (vlst (List.map C_uint8 (numsB v45)))), (100, .dat (vint ((numsB v45).length : Int))), (101, .dat (vint (k57 : Int)))]) (fun i => []) (fun i => internal_strconv_ParseUint_J10 v46 v49 v53 v55 v56 i = some q58) (fun i => rfl) ?_ ?_
       ·skip
        refine awp_block ?_
        refine awp_seq ?_
        refine awp_plain hN rfl ?_
        refine qd rfl ?_
        refine seq_run0 (stp_eql rfl rfl) ?_
        refine qd rfl ?_
        refine seq_aT rfl rfl (fun hc => stp_move (.dat _) rfl) ?_
        refine seq_run0 (stp_pick_and rfl (fun hb => (cnd (c := (decide (x60 = 95))) hb)) rfl) ?_
        refine qe rfl ?_
        refine awp_cond _ rfl (fun h70 => ?_) (fun h70 => ?_)
        ·replace H := ift h70 H
         refine awp_seq ?_
         refine awp_plain hN rfl ?_
         refine qe rfl ?_
         refine awp_exit ?_
         exact ⟨(true, v56), H, ⟨rfl, rfl, rfl, rfl, rfl, rfl, rfl, rfl, rfl, rfl, trivial⟩, trivial⟩
        ·replace H := iff_ h70 H
         refine awp_seq ?_
         refine awp_plain hN rfl ?_
         refine qd rfl ?_
         refine seq_run0 (stp_leq rfl rfl) ?_
         refine qd rfl ?_
         refine seq_aT rfl rfl (fun hc => stp_move (.dat _) rfl) ?_
         refine seq_aT rfl rfl (fun hc => stp_leq (cnd (c := (decide (48 ≤ x60))) hc) rfl) ?_
         refine seq_run0 (stp_pick_and rfl (fun hb => (cnd (c := (decide (48 ≤ x60))) hb)) rfl) ?_
         refine qe rfl ?_
         refine awp_cond _ rfl (fun h71 => ?_) (fun h71 => ?_)
         ·replace H := ift h71 H
          refine awp_plain hN rfl ?_
          refine qd rfl ?_
          refine seq_run0 (stp_wrap _ rfl rfl (.inr (.inl ⟨rfl, rfl⟩))) ?_
          refine qe rfl ?_
          exact ⟨IntKind.wrap .u8 (x60 - 48), H, ⟨rfl, rfl, rfl, rfl, rfl, rfl, rfl, rfl, rfl, rfl, rfl, trivial⟩, trivial⟩
         ·replace H := iff_ h71 H
          refine awp_joinE (ι := Bool) (fun i => [(1, .dat (vint v46)), (8, .dat (vbool (decide (v2 = 0)))), (9, .dat (vstr v1)), (10, .dat (vval (.int .u64 v53))), (11, .dat (vval (.int .u64 (IntKind.wrap .u64 ((shl_ .u64 1 (IntKind.wrap .u64 v49)) - 1))))), (12, .dat (vbool v55)), (13, .dat (vval (.int .u64 v56))), (15, .dat (vval (.int .u8 x60))), (99, .dat (vlst (List.map C_uint8 (numsB v45)))), (100, .dat (vint ((numsB v45).length : Int))), (101, .dat (vint (k57 : Int))), (121, .dat (vbool i))]) (fun i => []) (fun i => internal_strconv_ParseUint_J11 v46 v49 v53 v55 v56 x60 i = some q58) (fun i => rfl) ?_ ?_
          ·skip
           refine awp_plain hN rfl ?_
           refine qd rfl ?_
           obtain ⟨r72, h73, H⟩ := bnd H
           refine seq_run0 (stp_call (k_internal_strconv_lower x60 r72 h73) ⟨.inl rfl, trivial⟩) ?_
           refine seq_run0 (stp_leq rfl rfl) ?_
           refine qd rfl ?_
           refine seq_split (j := 3) rfl rfl (fun h74 => ?_) (fun h74 => ?_) rfl
           ·have h75 := un1 h74
            replace H := ift h75 H
            refine seq_g0 rfl rfl h74 (stp_move (.dat _) rfl) ?_
            obtain ⟨r76, h77, H⟩ := bnd H
            refine seq_g0 rfl rfl h74 (stp_call (k_internal_strconv_lower x60 r76 h77) ⟨.inl rfl, trivial⟩) ?_
            refine seq_g0 rfl rfl h74 (stp_leq rfl rfl) ?_
            refine seq_run0 (stp_pick_t rfl (bTT h75) rfl) ?_
            refine qe rfl ?_
            exact ⟨decide (r76 ≤ 122), H, ⟨rfl, rfl, rfl, rfl, rfl, rfl, rfl, rfl, rfl, rfl, rfl, rfl, trivial⟩, trivial⟩
           ·have h78 := un2 h74
            replace H := iff_ h78 H
            refine seq_skip rfl rfl h74 ?_
            refine seq_skip rfl rfl h74 ?_
            refine seq_skip rfl rfl h74 ?_
            refine seq_run0 (stp_pick_f rfl (bFF h78) rfl) ?_
            refine qe rfl ?_
            exact ⟨false, H, ⟨rfl, rfl, rfl, rfl, rfl, rfl, rfl, rfl, rfl, rfl, rfl, rfl, trivial⟩, trivial⟩
          ·rintro v79 H
           replace H : internal_strconv_ParseUint_J11 v46 v49 v53 v55 v56 x60 v79 = some q58 := H
           unfold internal_strconv_ParseUint_J11 at H
           refine awp_cond _ rfl (fun h80 => ?_) (fun h80 => ?_)
           ·replace H := ift h80 H
            refine awp_plain hN rfl ?_
            refine qd rfl ?_
            obtain ⟨r81, h82, H⟩ := bnd H
            refine seq_run0 (stp_call (k_internal_strconv_lower x60 r81 h82) ⟨.inl rfl, trivial⟩) ?_
            refine seq_run0 (stp_wrap _ rfl rfl (.inr (.inl ⟨rfl, rfl⟩))) ?_
            refine seq_run0 (stp_wrap _ rfl rfl (.inl ⟨rfl, rfl⟩)) ?_
            refine qe rfl ?_
            exact ⟨IntKind.wrap .u8 ((IntKind.wrap .u8 (r81 - 97)) + 10), H, ⟨rfl, rfl, rfl, rfl, rfl, rfl, rfl, rfl, rfl, rfl, rfl, trivial⟩, trivial⟩
           ·replace H := iff_ h80 H
            refine awp_seq ?_
            refine awp_plain hN rfl ?_
            refine seq_run0 (stp_dat (u' := verr 2) (stp_mkErr (show Tryz.prog.underlying 169 = some (.int .i64) from by kernel_rfl) rfl) rfl) ?_
            refine qe rfl ?_
            refine qe rfl ?_
            refine awp_ret ?_
            replace H := retl H hq58
            cases H
            exact ⟨trivial, .inl rfl, .inl rfl, trivial⟩
       ·rintro v83 H
        replace H : internal_strconv_ParseUint_J10 v46 v49 v53 v55 v56 v83 = some q58 := H
        unfold internal_strconv_ParseUint_J10 at H
        refine awp_seq ?_
        refine awp_seq ?_
        refine awp_plain hN rfl ?_
        refine qd rfl ?_
        refine qd rfl ?_
        refine seq_run0 (stp_conv tyU3 tyU5 rfl) ?_
        refine seq_run0 (stp_geq rfl rfl) ?_
        refine awp_cond _ rfl (fun h84 => ?_) (fun h84 => ?_)
        ·replace H := ift h84 H
         refine awp_seq ?_
         refine awp_plain hN rfl ?_
         refine seq_run0 (stp_dat (u' := verr 2) (stp_mkErr (show Tryz.prog.underlying 169 = some (.int .i64) from by kernel_rfl) rfl) rfl) ?_
         refine qe rfl ?_
         refine qe rfl ?_
         refine awp_ret ?_
         replace H := retl H hq58
         cases H
         exact ⟨trivial, .inl rfl, .inl rfl, trivial⟩
        ·replace H := iff_ h84 H
         refine awp_skip ?_
         refine awp_seq ?_
         refine awp_seq ?_
         refine awp_plain hN rfl ?_
         refine qd rfl ?_
         refine qd rfl ?_
         refine seq_run0 (stp_geq rfl rfl) ?_
         refine awp_cond _ rfl (fun h85 => ?_) (fun h85 => ?_)
         ·replace H := ift h85 H
          refine awp_seq ?_
          refine awp_plain hN rfl ?_
          refine qd rfl ?_
          refine seq_run0 (stp_dat (u' := verr 1) (stp_mkErr (show Tryz.prog.underlying 169 = some (.int .i64) from by kernel_rfl) rfl) rfl) ?_
          refine qe rfl ?_
          refine qe rfl ?_
          refine awp_ret ?_
          replace H := retl H hq58
          cases H
          exact ⟨trivial, .inl rfl, .inl rfl, trivial⟩
         ·replace H := iff_ h85 H
          refine awp_skip ?_
          refine awp_seq ?_
          refine awp_plain hN rfl ?_
          refine qd rfl ?_
          refine qd rfl ?_
          refine seq_run0 (stp_conv tyU3 tyU107 rfl) ?_
          refine seq_run0 (stp_wrap _ rfl rfl (.inr (.inr ⟨rfl, rfl⟩))) ?_
          refine qe rfl ?_
          refine awp_seq ?_
          refine awp_plain hN rfl ?_
          refine qd rfl ?_
          refine qd rfl ?_
          refine seq_run0 (stp_conv tyU5 tyU107 rfl) ?_
          refine seq_run0 (stp_wrap _ rfl rfl (.inl ⟨rfl, rfl⟩)) ?_
          refine qe rfl ?_
          refine awp_seq ?_
          refine awp_seq ?_
          refine awp_plain hN rfl ?_
          refine qd rfl ?_
          refine qd rfl ?_
          refine seq_run0 (stp_lss rfl rfl) ?_
          refine qd rfl ?_
          refine seq_aF rfl rfl (fun hc => stp_move (.dat _) rfl) ?_
          refine seq_aF rfl rfl (fun hc => stp_move (.dat _) rfl) ?_
          refine seq_aF rfl rfl (fun hc => stp_gtr (cnd (c := (!(decide ((IntKind.wrap .u64 ((IntKind.wrap .u64 (v56 * (IntKind.wrap .u64 v46))) + (IntKind.wrap .u64 v83))) < (IntKind.wrap .u64 (v56 * (IntKind.wrap .u64 v46))))))) hc) (cnd (c := (!(decide ((IntKind.wrap .u64 ((IntKind.wrap .u64 (v56 * (IntKind.wrap .u64 v46))) + (IntKind.wrap .u64 v83))) < (IntKind.wrap .u64 (v56 * (IntKind.wrap .u64 v46))))))) hc)) ?_
          refine seq_run0 (stp_pick_or rfl rfl (fun hb => (cnd (c := (!(decide ((IntKind.wrap .u64 ((IntKind.wrap .u64 (v56 * (IntKind.wrap .u64 v46))) + (IntKind.wrap .u64 v83))) < (IntKind.wrap .u64 (v56 * (IntKind.wrap .u64 v46))))))) (notI hb)))) ?_
          refine awp_cond _ rfl (fun h86 => ?_) (fun h86 => ?_)
          ·replace H := ift h86 H
           refine awp_seq ?_
           refine awp_plain hN rfl ?_
           refine qd rfl ?_
           refine seq_run0 (stp_dat (u' := verr 1) (stp_mkErr (show Tryz.prog.underlying 169 = some (.int .i64) from by kernel_rfl) rfl) rfl) ?_
           refine qe rfl ?_
           refine qe rfl ?_
           refine awp_ret ?_
           replace H := retl H hq58
           cases H
           exact ⟨trivial, .inl rfl, .inl rfl, trivial⟩
          ·replace H := iff_ h86 H
           refine awp_skip ?_
           refine awp_plain hN rfl ?_
           refine qd rfl ?_
           refine qe rfl ?_
           exact ⟨(v55, IntKind.wrap .u64 ((IntKind.wrap .u64 (v56 * (IntKind.wrap .u64 v46))) + (IntKind.wrap .u64 v83))), H, ⟨rfl, rfl, rfl, rfl, rfl, rfl, rfl, rfl, rfl, rfl, trivial⟩, trivial⟩
      ·rintro ⟨v87, v88⟩ H
       replace H : internal_strconv_ParseUint_J9 v87 v88 = some q58 := H
       unfold internal_strconv_ParseUint_J9 at H
       refine awp_plain hN rfl ?_
       refine seq_run0 (stp_add rfl rfl (by omega)) ?_
       refine qd rfl ?_
       exact ⟨_, backl H, ⟨rfl, rfl, rfl, rfl, rfl, rfl, rfl, rfl, rfl, rfl, trivial⟩, trivial⟩
theorem k_internal_strconv_ParseInt (v1 : Bs) (v2 : Int) (v3 : Int) (r : (Int × Int)) (H : m_internal_strconv_ParseInt v1 v2 v3 = some r) : Fn Tryz.prog 176 [vstr v1, vint v2, vint v3] (resOf [vint r.1, verr r.2]) := by
 refine ⟨by kernel_rfl, pure_of (us := [vint r.1, verr r.2]) Tryz.func176 rfl rfl rfl rfl fun X hN => ?_⟩
 unfold m_internal_strconv_ParseInt at H
 refine awp_seq ?_
 refine awp_plain hN rfl ?_
 refine qe rfl ?_
 refine qe rfl ?_
 refine awp_seq ?_
 refine awp_seq ?_
 refine awp_plain hN rfl ?_
 refine qd rfl ?_
 refine seq_run0 (stp_seql rfl rfl) ?_
 refine awp_cond _ rfl (fun h4 => ?_) (fun h4 => ?_)
 ·replace H := ift h4 H
  refine awp_seq ?_
  refine awp_plain hN rfl ?_
  refine seq_run0 (stp_dat (u' := verr 2) (stp_mkErr (show Tryz.prog.underlying 169 = some (.int .i64) from by kernel_rfl) rfl) rfl) ?_
  refine qe rfl ?_
  refine qe rfl ?_
  refine awp_ret ?_
  cases H
  exact ⟨trivial, .inl rfl, .inl rfl, trivial⟩
 ·replace H := iff_ h4 H
  refine awp_skip ?_
  refine awp_seq ?_
  refine awp_plain hN rfl ?_
  refine qe rfl ?_
  refine awp_joinE (ι := Bs × Bool) (fun i => [(0, .dat (vstr i.1)), (1, .dat (vint v2)), (2, .dat (vint v3)), (8, .dat (vbool i.2))]) (fun i => []) (fun i => internal_strconv_ParseInt_J1 v2 v3 i.1 i.2 = some r) (fun i => rfl) ?_ ?_
  ·skip
   refine awp_seq ?_
   refine awp_plain hN rfl ?_
   refine qd rfl ?_
   obtain ⟨x5, h6, H⟩ := bnd H
   refine seq_run0 (t_byte tyU9 rfl rfl h6) ?_
   refine awp_block ?_
   refine awp_seq ?_
   refine awp_plain hN rfl ?_
   refine seq_run0 (stp_eql rfl rfl) ?_
   refine qe rfl ?_
   refine awp_cond _ rfl (fun h7 => ?_) (fun h7 => ?_)
   ·replace H := ift h7 H
    refine awp_plain hN rfl ?_
    refine qd rfl ?_
    obtain ⟨l8, h9, H⟩ := bnd H
    refine seq_run0 (t_subS tyU9 rfl rfl rfl h9) ?_
    refine qe rfl ?_
    exact ⟨(l8, false), H, ⟨rfl, rfl, rfl, rfl, trivial⟩, trivial⟩
   ·replace H := iff_ h7 H
    refine awp_seq ?_
    refine awp_plain hN rfl ?_
    refine seq_run0 (stp_eql rfl rfl) ?_
    refine qe rfl ?_
    refine awp_cond _ rfl (fun h10 => ?_) (fun h10 => ?_)
    ·replace H := ift h10 H
     refine awp_seq ?_
     refine awp_plain hN rfl ?_
     refine qd rfl ?_
     obtain ⟨l11, h12, H⟩ := bnd H
     refine seq_run0 (t_subS tyU9 rfl rfl rfl h12) ?_
     refine qe rfl ?_
     refine awp_plain hN rfl ?_
     refine qe rfl ?_
     exact ⟨(l11, true), H, ⟨rfl, rfl, rfl, rfl, trivial⟩, trivial⟩
    ·replace H := iff_ h10 H
     refine awp_skip ?_
     exact ⟨(v1, false), H, ⟨rfl, rfl, rfl, rfl, trivial⟩, trivial⟩
  ·rintro ⟨v13, v14⟩ H
   replace H : internal_strconv_ParseInt_J1 v2 v3 v13 v14 = some r := H
   unfold internal_strconv_ParseInt_J1 at H
   refine awp_seq ?_
   refine awp_plain hN rfl ?_
   refine qe rfl ?_
   refine awp_seq ?_
   refine awp_plain hN rfl ?_
   refine qd rfl ?_
   refine qd rfl ?_
   refine qd rfl ?_
   obtain ⟨r15, h16, H⟩ := bnd H
   refine seq_run0 (stp_call (k_internal_strconv_ParseUint v13 v2 v3 r15 h16) ⟨.inl rfl, .inl rfl, .inl rfl, trivial⟩) ?_
   refine qd rfl ?_
   refine seq_run0 (stp_ext rfl rfl) ?_
   refine seq_run0 (stp_ext rfl rfl) ?_
   refine qe rfl ?_
   refine qe rfl ?_
   refine awp_seq ?_
   refine awp_joinE (ι := Bool) (fun i => [(2, .dat (vint v3)), (7, .dat (verr r15.2)), (8, .dat (vbool v14)), (9, .dat (vval (.int .u64 r15.1))), (38, .dat (vbool i))]) (fun i => []) (fun i => internal_strconv_ParseInt_J2 v3 v14 r15 i = some r) (fun i => rfl) ?_ ?_
   ·skip
    refine awp_plain hN rfl ?_
    refine qd rfl ?_
    refine seq_run0 (stp_errneq (n := r15.2) (show Tryz.prog.underlying 83 = some (.interface (Tryz.prog.methodsAt 83)) from by kernel_rfl) rfl) ?_
    refine qd rfl ?_
    refine seq_split (j := 2) rfl rfl (fun h17 => ?_) (fun h17 => ?_) rfl
    ·have h18 := un1 h17
     replace H := ift h18 H
     refine seq_g0 rfl rfl h17 (stp_move (.dat _) rfl) ?_
     refine seq_g0 rfl rfl h17 (stp_dat (u' := verr 1) (stp_mkErr (show Tryz.prog.underlying 169 = some (.int .i64) from by kernel_rfl) rfl) rfl) ?_
     obtain ⟨h19, H⟩ := gif H
     refine seq_g0 rfl rfl h17 (stp_errneqK (n := r15.2) (m := 1) (show Tryz.prog.underlying 83 = some (.interface (Tryz.prog.methodsAt 83)) from by kernel_rfl) (by kernel_rfl) (by kernel_rfl) rfl rfl h19 (by decide)) ?_
     refine seq_run0 (stp_pick_t rfl (bTT h18) rfl) ?_
     exact ⟨decide (r15.2 ≠ 1), H, ⟨rfl, rfl, rfl, rfl, rfl, trivial⟩, trivial⟩
    ·have h20 := un2 h17
     replace H := iff_ h20 H
     refine seq_skip rfl rfl h17 ?_
     refine seq_skip rfl rfl h17 ?_
     refine seq_skip rfl rfl h17 ?_
     refine seq_run0 (stp_pick_f rfl (bFF h20) rfl) ?_
     exact ⟨false, H, ⟨rfl, rfl, rfl, rfl, rfl, trivial⟩, trivial⟩
   ·rintro v21 H
    replace H : internal_strconv_ParseInt_J2 v3 v14 r15 v21 = some r := H
    unfold internal_strconv_ParseInt_J2 at H
    refine awp_cond _ rfl (fun h22 => ?_) (fun h22 => ?_)
    ·replace H := ift h22 H
     refine awp_seq ?_
     refine awp_plain hN rfl ?_
     refine qd rfl ?_
     refine qe rfl ?_
     refine qe rfl ?_
     refine awp_ret ?_
     cases H
     exact ⟨trivial, .inl rfl, .inl rfl, trivial⟩
    ·replace H := iff_ h22 H
     refine awp_skip ?_
     refine awp_joinE (ι := Int) (fun i => [(2, .dat (vint i)), (8, .dat (vbool v14)), (9, .dat (vval (.int .u64 r15.1)))]) (fun i => []) (fun i => internal_strconv_ParseInt_J3 v14 r15 i = some r) (fun i => rfl) ?_ ?_
     ·skip
      refine awp_seq ?_
      refine awp_plain hN rfl ?_
      refine qd rfl ?_
      refine seq_run0 (stp_eql rfl rfl) ?_
      refine awp_cond _ rfl (fun h23 => ?_) (fun h23 => ?_)
      ·replace H := ift h23 H
       refine awp_plain hN rfl ?_
       refine qe rfl ?_
       exact ⟨64, H, ⟨rfl, rfl, rfl, trivial⟩, trivial⟩
      ·replace H := iff_ h23 H
       refine awp_skip ?_
       exact ⟨v3, H, ⟨rfl, rfl, rfl, trivial⟩, trivial⟩
     ·rintro v24 H
      replace H : internal_strconv_ParseInt_J3 v14 r15 v24 = some r := H
      unfold internal_strconv_ParseInt_J3 at H
      refine awp_seq ?_
      refine awp_plain hN rfl ?_
      refine qd rfl ?_
      refine seq_run0 (stp_wrap _ rfl rfl (.inr (.inl ⟨rfl, rfl⟩))) ?_
      refine seq_run0 (stp_conv tyU3 tyU74 rfl) ?_
      obtain ⟨h25, H⟩ := gif H
      refine seq_run0 (stp_dat (stp_shl rfl rfl h25) rfl) ?_
      refine qe rfl ?_
      refine awp_seq ?_
      refine awp_seq ?_
      refine awp_plain hN rfl ?_
      refine qd rfl ?_
      refine seq_run0 (stp_not rfl) ?_
      refine qd rfl ?_
      refine seq_aT rfl rfl (fun hc => stp_move (.dat _) rfl) ?_
      refine seq_aT rfl rfl (fun hc => stp_move (.dat _) rfl) ?_
      refine seq_aT rfl rfl (fun hc => stp_geq (cnd (c := (!v14)) hc) (cnd (c := (!v14)) hc)) ?_
      refine seq_run0 (stp_pick_and rfl (fun hb => (cnd (c := (!v14)) hb)) rfl) ?_
      refine awp_cond _ rfl (fun h26 => ?_) (fun h26 => ?_)
      ·replace H := ift h26 H
       refine awp_seq ?_
       refine awp_plain hN rfl ?_
       refine qd rfl ?_
       refine seq_run0 (stp_wrap _ rfl rfl (.inr (.inl ⟨rfl, rfl⟩))) ?_
       refine seq_run0 (stp_conv tyU107 tyU2 rfl) ?_
       refine seq_run0 (stp_dat (u' := verr 1) (stp_mkErr (show Tryz.prog.underlying 169 = some (.int .i64) from by kernel_rfl) rfl) rfl) ?_
       refine qe rfl ?_
       refine qe rfl ?_
       refine awp_ret ?_
       cases H
       exact ⟨trivial, .inl rfl, .inl rfl, trivial⟩
      ·replace H := iff_ h26 H
       refine awp_skip ?_
       refine awp_seq ?_
       refine awp_seq ?_
       refine awp_plain hN rfl ?_
       refine qd rfl ?_
       refine qd rfl ?_
       refine seq_aT rfl rfl (fun hc => stp_move (.dat _) rfl) ?_
       refine seq_aT rfl rfl (fun hc => stp_move (.dat _) rfl) ?_
       refine seq_aT rfl rfl (fun hc => stp_gtr (cnd (c := v14) hc) (cnd (c := v14) hc)) ?_
       refine seq_run0 (stp_pick_and rfl (fun hb => (cnd (c := v14) hb)) rfl) ?_
       refine awp_cond _ rfl (fun h27 => ?_) (fun h27 => ?_)
       ·replace H := ift h27 H
        refine awp_seq ?_
        refine awp_plain hN rfl ?_
        refine qd rfl ?_
        refine seq_run0 (stp_conv tyU107 tyU2 rfl) ?_
        obtain ⟨h28, H⟩ := gif H
        refine seq_run0 (stp_neg rfl h28) ?_
        refine seq_run0 (stp_dat (u' := verr 1) (stp_mkErr (show Tryz.prog.underlying 169 = some (.int .i64) from by kernel_rfl) rfl) rfl) ?_
        refine qe rfl ?_
        refine qe rfl ?_
        refine awp_ret ?_
        cases H
        exact ⟨trivial, .inl rfl, .inl rfl, trivial⟩
       ·replace H := iff_ h27 H
        refine awp_skip ?_
        refine awp_seq ?_
        refine awp_plain hN rfl ?_
        refine qd rfl ?_
        refine seq_run0 (stp_conv tyU107 tyU2 rfl) ?_
        refine qe rfl ?_
        refine awp_joinE (ι := Int) (fun i => [(11, .dat (vint i))]) (fun i => []) (fun i => internal_strconv_ParseInt_J4 i = some r) (fun i => rfl) ?_ ?_
        ·skip
         refine awp_seq ?_
         refine awp_plain hN rfl ?_
         refine qd rfl ?_
         refine awp_cond _ rfl (fun h29 => ?_) (fun h29 => ?_)
         ·replace H := ift h29 H
          refine awp_plain hN rfl ?_
          refine qd rfl ?_
          obtain ⟨h30, H⟩ := gif H
          refine seq_run0 (stp_neg rfl h30) ?_
          refine qe rfl ?_
          exact ⟨(-(IntKind.wrap .i64 r15.1)), H, ⟨rfl, trivial⟩, trivial⟩
         ·replace H := iff_ h29 H
          refine awp_skip ?_
          exact ⟨IntKind.wrap .i64 r15.1, H, ⟨rfl, trivial⟩, trivial⟩
        ·rintro v31 H
         replace H : internal_strconv_ParseInt_J4 v31 = some r := H
         unfold internal_strconv_ParseInt_J4 at H
         refine awp_seq ?_
         refine awp_plain hN rfl ?_
         refine qd rfl ?_
         refine qe rfl ?_
         refine qe rfl ?_
         refine awp_ret ?_
         cases H
         exact ⟨trivial, .inl rfl, .inl rfl, trivial⟩
theorem k_internal_strconv_Atoi (v1 : Bs) (r : (Int × Int)) (H : m_internal_strconv_Atoi v1 = some r) : Fn Tryz.prog 166 [vstr v1] (resOf [vint r.1, verr r.2]) := by
 refine ⟨by kernel_rfl, pure_of (us := [vint r.1, verr r.2]) Tryz.func166 rfl rfl rfl rfl fun X hN => ?_⟩
 unfold m_internal_strconv_Atoi at H
 refine awp_seq ?_
 refine awp_plain hN rfl ?_
 refine qe rfl ?_
 refine qe rfl ?_
 refine awp_seq ?_
 refine awp_plain hN rfl ?_
 refine qd rfl ?_
 refine seq_run0 (stp_len_str tyU9 rfl) ?_
 refine qe rfl ?_
 refine awp_seq ?_
 refine awp_seq ?_
 refine awp_plain hN rfl ?_
 refine qd rfl ?_
 refine seq_aT (s := .dat (vint (v1.length : Int))) rfl rfl (fun hc => stp_move (.dat _) rfl) ?_
 refine seq_aT (s := .dat (vbool (decide (0 < (v1.length : Int))))) rfl rfl (fun hc => stp_lss rfl (cnd (c := false) (s := .dat (vint (v1.length : Int))) hc)) ?_
 refine seq_aT (s := .dat (vbool (decide (0 < (v1.length : Int))))) rfl rfl (fun hc => stp_move (.dat _) (cnd (c := false) (s := .dat (vbool (decide (0 < (v1.length : Int))))) hc)) ?_
 refine seq_bT (s := .dat (vint (v1.length : Int))) (c := false) (b := decide (0 < (v1.length : Int))) rfl rfl (fun hc => stp_move (.dat _) rfl) ?_
 refine seq_bT (s := .dat (vbool (decide ((v1.length : Int) < 10)))) (c := false) (b := decide (0 < (v1.length : Int))) rfl rfl (fun hc => stp_lss (cnd (c := (false && (decide (0 < (v1.length : Int))))) (s := .dat (vint (v1.length : Int))) hc) rfl) ?_
 refine seq_aT (s := .dat (vbool ((decide (0 < (v1.length : Int))) && (decide ((v1.length : Int) < 10))))) rfl rfl (fun hc => stp_pick_and (cnd (c := false) (s := .dat (vbool (decide (0 < (v1.length : Int))))) hc) (fun hb => (cnd (c := (false && (decide (0 < (v1.length : Int))))) (s := .dat (vbool (decide ((v1.length : Int) < 10)))) (andI hc hb))) rfl) ?_
 refine seq_run0 (stp_pick_and rfl (fun hb => (cnd (c := false) (s := .dat (vbool ((decide (0 < (v1.length : Int))) && (decide ((v1.length : Int) < 10))))) hb)) rfl) ?_
 refine qd rfl ?_
 refine seq_aF (s := .dat (vbool true)) rfl rfl (fun hc => stp_move (.dat _) rfl) ?_
 refine seq_bT (s := .dat (vint (v1.length : Int))) (c := (!(false && ((decide (0 < (v1.length : Int))) && (decide ((v1.length : Int) < 10)))))) (b := true) rfl rfl (fun hc => stp_move (.dat _) rfl) ?_
 refine seq_bT (s := .dat (vbool (decide (0 < (v1.length : Int))))) (c := (!(false && ((decide (0 < (v1.length : Int))) && (decide ((v1.length : Int) < 10)))))) (b := true) rfl rfl (fun hc => stp_lss rfl (cnd (c := ((!(false && ((decide (0 < (v1.length : Int))) && (decide ((v1.length : Int) < 10))))) && true)) (s := .dat (vint (v1.length : Int))) hc)) ?_
 refine seq_bT (s := .dat (vbool (decide (0 < (v1.length : Int))))) (c := (!(false && ((decide (0 < (v1.length : Int))) && (decide ((v1.length : Int) < 10)))))) (b := true) rfl rfl (fun hc => stp_move (.dat _) (cnd (c := ((!(false && ((decide (0 < (v1.length : Int))) && (decide ((v1.length : Int) < 10))))) && true)) (s := .dat (vbool (decide (0 < (v1.length : Int))))) hc)) ?_
 refine seq_bT (s := .dat (vint (v1.length : Int))) (c := ((!(false && ((decide (0 < (v1.length : Int))) && (decide ((v1.length : Int) < 10))))) && true)) (b := decide (0 < (v1.length : Int))) rfl rfl (fun hc => stp_move (.dat _) rfl) ?_
 refine seq_bT (s := .dat (vbool (decide ((v1.length : Int) < 19)))) (c := ((!(false && ((decide (0 < (v1.length : Int))) && (decide ((v1.length : Int) < 10))))) && true)) (b := decide (0 < (v1.length : Int))) rfl rfl (fun hc => stp_lss (cnd (c := (((!(false && ((decide (0 < (v1.length : Int))) && (decide ((v1.length : Int) < 10))))) && true) && (decide (0 < (v1.length : Int))))) (s := .dat (vint (v1.length : Int))) hc) rfl) ?_
 refine seq_bT (s := .dat (vbool ((decide (0 < (v1.length : Int))) && (decide ((v1.length : Int) < 19))))) (c := (!(false && ((decide (0 < (v1.length : Int))) && (decide ((v1.length : Int) < 10)))))) (b := true) rfl rfl (fun hc => stp_pick_and (cnd (c := ((!(false && ((decide (0 < (v1.length : Int))) && (decide ((v1.length : Int) < 10))))) && true)) (s := .dat (vbool (decide (0 < (v1.length : Int))))) hc) (fun hb => (cnd (c := (((!(false && ((decide (0 < (v1.length : Int))) && (decide ((v1.length : Int) < 10))))) && true) && (decide (0 < (v1.length : Int))))) (s := .dat (vbool (decide ((v1.length : Int) < 19)))) (andI hc hb))) rfl) ?_
 refine seq_aF (s := .dat (vbool (true && ((decide (0 < (v1.length : Int))) && (decide ((v1.length : Int) < 19)))))) rfl rfl (fun hc => stp_pick_and (cnd (c := (!(false && ((decide (0 < (v1.length : Int))) && (decide ((v1.length : Int) < 10)))))) (s := .dat (vbool true)) hc) (fun hb => (cnd (c := ((!(false && ((decide (0 < (v1.length : Int))) && (decide ((v1.length : Int) < 10))))) && true)) (s := .dat (vbool ((decide (0 < (v1.length : Int))) && (decide ((v1.length : Int) < 19))))) (andI hc hb))) rfl) ?_
 refine seq_run0 (stp_pick_or rfl rfl (fun hb => (cnd (c := (!(false && ((decide (0 < (v1.length : Int))) && (decide ((v1.length : Int) < 10)))))) (s := .dat (vbool (true && ((decide (0 < (v1.length : Int))) && (decide ((v1.length : Int) < 19)))))) (notI hb)))) ?_
 refine awp_cond _ rfl (fun h2 => ?_) (fun h2 => ?_)
 ·replace H := ift h2 H
  refine awp_seq ?_
  refine awp_plain hN rfl ?_
  refine qd rfl ?_
  refine qe rfl ?_
  refine awp_joinE (ι := Bs) (fun i => [(0, .dat (vstr i)), (5, .dat (vstr v1))]) (fun i => []) (fun i => internal_strconv_Atoi_J1 v1 i = some r) (fun i => rfl) ?_ ?_
  ·skip
   refine awp_joinE (ι := Bool) (fun i => [(0, .dat (vstr v1)), (5, .dat (vstr v1)), (39, .dat (vbool i))]) (fun i => []) (fun i => internal_strconv_Atoi_J2 v1 i = some r) (fun i => rfl) ?_ ?_
   ·skip
    refine awp_plain hN rfl ?_
    refine qd rfl ?_
    obtain ⟨x3, h4, H⟩ := bnd H
    refine seq_run0 (t_byte tyU9 rfl rfl h4) ?_
    refine seq_run0 (stp_eql rfl rfl) ?_
    refine qd rfl ?_
    refine seq_split (j := 3) rfl rfl (fun h5 => ?_) (fun h5 => ?_) rfl
    ·have h6 := un3 h5
     replace H := iff_ h6 H
     refine seq_g0 rfl rfl h5 (stp_move (.dat _) rfl) ?_
     refine seq_g0 rfl rfl h5 (t_byte tyU9 rfl rfl h4) ?_
     refine seq_g0 rfl rfl h5 (stp_eql rfl rfl) ?_
     refine seq_run0 (stp_pick_f rfl (bFF h6) rfl) ?_
     exact ⟨decide ((x3.toNat : Int) = 43), H, ⟨rfl, rfl, rfl, trivial⟩, trivial⟩
    ·have h7 := un4 h5
     replace H := ift h7 H
     refine seq_skip rfl rfl h5 ?_
     refine seq_skip rfl rfl h5 ?_
     refine seq_skip rfl rfl h5 ?_
     refine seq_run0 (stp_pick_t rfl (bTT h7) rfl) ?_
     exact ⟨true, H, ⟨rfl, rfl, rfl, trivial⟩, trivial⟩
   ·rintro v8 H
    replace H : internal_strconv_Atoi_J2 v1 v8 = some r := H
    unfold internal_strconv_Atoi_J2 at H
    refine awp_cond _ rfl (fun h9 => ?_) (fun h9 => ?_)
    ·replace H := ift h9 H
     refine awp_seq ?_
     refine awp_plain hN rfl ?_
     refine qd rfl ?_
     obtain ⟨l10, h11, H⟩ := bnd H
     refine seq_run0 (t_subS tyU9 rfl rfl rfl h11) ?_
     refine qe rfl ?_
     refine awp_seq ?_
     refine awp_plain hN rfl ?_
     refine qd rfl ?_
     refine seq_run0 (stp_len_str tyU9 rfl) ?_
     refine seq_run0 (stp_lss rfl rfl) ?_
     refine awp_cond _ rfl (fun h12 => ?_) (fun h12 => ?_)
     ·replace H := ift h12 H
      refine awp_seq ?_
      refine awp_plain hN rfl ?_
      refine seq_run0 (stp_dat (u' := verr 2) (stp_mkErr (show Tryz.prog.underlying 169 = some (.int .i64) from by kernel_rfl) rfl) rfl) ?_
      refine qe rfl ?_
      refine qe rfl ?_
      refine awp_ret ?_
      cases H
      exact ⟨trivial, .inl rfl, .inl rfl, trivial⟩
     ·replace H := iff_ h12 H
      refine awp_skip ?_
      exact ⟨l10, H, ⟨rfl, rfl, trivial⟩, trivial⟩
    ·replace H := iff_ h9 H
     refine awp_skip ?_
     exact ⟨v1, H, ⟨rfl, rfl, trivial⟩, trivial⟩
  ·rintro v13 H
   replace H : internal_strconv_Atoi_J1 v1 v13 = some r := H
   unfold internal_strconv_Atoi_J1 at H
   refine awp_seq ?_
   refine awp_plain hN rfl ?_
   refine qe rfl ?_
   refine awp_seq ?_
   refine awp_seq ?_
   refine awp_plain hN rfl ?_
   refine qd rfl ?_
   refine seq_run0 (stp_convS2B (C := C_uint8) tyU9 tyU78 tyU5 (fun _ => rfl) rfl) ?_
   refine seq_run0 (t_len tyU78 rfl) ?_
   refine qd rfl ?_
   refine awp_block ?_
   obtain ⟨h17, H⟩ := gif H
   refine awp_forL (fun (k15 : Nat) (s : Int) => [(5, .dat (vstr v1)), (6, .dat (vint s)), (47, .dat (vlst (List.map C_uint8 (numsB v13)))), (48, .dat (vint ((numsB v13).length : Int))), (49, .dat (vint (k15 : Int)))]) (fun (k15 : Nat) (s : Int) => []) 0 H ⟨rfl, rfl, rfl, rfl, rfl, trivial⟩ trivial (fun _ _ => rfl) ?_ ?_
   ·rintro v14 H
    replace H : internal_strconv_Atoi_E3 v1 v14 = some r := H
    unfold internal_strconv_Atoi_E3 at H
    refine awp_seq ?_
    refine awp_plain hN rfl ?_
    refine seq_run0 (stp_lss rfl rfl) ?_
    refine awp_seq ?_
    refine awp_cond _ rfl (fun h => (lt_t h).elim) (fun h => ?_)
    refine awp_exit ?_
    refine awp_joinE (ι := Int) (fun i => [(6, .dat (vint i))]) (fun i => []) (fun i => internal_strconv_Atoi_J4 i = some r) (fun i => rfl) ?_ ?_
    ·skip
     refine awp_seq ?_
     refine awp_plain hN rfl ?_
     refine qd rfl ?_
     obtain ⟨x19, h20, H⟩ := bnd H
     refine seq_run0 (t_byte tyU9 rfl rfl h20) ?_
     refine seq_run0 (stp_eql rfl rfl) ?_
     refine awp_cond _ rfl (fun h21 => ?_) (fun h21 => ?_)
     ·replace H := ift h21 H
      refine awp_plain hN rfl ?_
      refine qd rfl ?_
      obtain ⟨h22, H⟩ := gif H
      refine seq_run0 (stp_neg rfl h22) ?_
      refine qe rfl ?_
      exact ⟨(-v14), H, ⟨rfl, trivial⟩, trivial⟩
     ·replace H := iff_ h21 H
      refine awp_skip ?_
      exact ⟨v14, H, ⟨rfl, trivial⟩, trivial⟩
    ·rintro v23 H
     replace H : internal_strconv_Atoi_J4 v23 = some r := H
     unfold internal_strconv_Atoi_J4 at H
     refine awp_seq ?_
     refine awp_plain hN rfl ?_
     refine qd rfl ?_
     refine qe rfl ?_
     refine qe rfl ?_
     refine awp_ret ?_
     cases H
     exact ⟨trivial, .inl rfl, .inl rfl, trivial⟩
   ·rintro k15 x18 v14 q16 h24 h25 H hq16
    replace H : internal_strconv_Atoi_L3 k15 x18 v14 = some q16 := H
    unfold internal_strconv_Atoi_L3 at H
    refine awp_seq ?_
    refine awp_plain hN rfl ?_
    refine seq_run0 (stp_lss rfl rfl) ?_
    refine awp_seq ?_
    refine awp_cond _ rfl (fun h => ?_) (fun h => (lt_f h24 h).elim)
    refine awp_skip ?_
    refine awp_seq ?_
    refine awp_block ?_
    refine awp_seq ?_
    refine awp_plain hN rfl ?_
    refine seq_run0 (t_idx tyE78 (fun _ => rfl) rfl rfl h25) ?_
    refine seq_run0 (stp_loadE1 tyS5 rfl (map_at h25) rfl) ?_
    refine qe rfl ?_
    refine awp_seq ?_
    refine awp_plain hN rfl ?_
    refine qd rfl ?_
    refine seq_run0 (stp_wrap _ rfl rfl (.inr (.inl ⟨rfl, rfl⟩))) ?_
    refine qe rfl ?_
    refine awp_seq ?_
    refine awp_seq ?_
    refine awp_plain hN rfl ?_
    refine qd rfl ?_
    refine seq_run0 (stp_gtr rfl rfl) ?_
    refine awp_cond _ rfl (fun h26 => ?_) (fun h26 => ?_)
    ·replace H := ift h26 H
     refine awp_seq ?_
     refine awp_plain hN rfl ?_
     refine seq_run0 (stp_dat (u' := verr 2) (stp_mkErr (show Tryz.prog.underlying 169 = some (.int .i64) from by kernel_rfl) rfl) rfl) ?_
     refine qe rfl ?_
     refine qe rfl ?_
     refine awp_ret ?_
     replace H := retl H hq16
     cases H
     exact ⟨trivial, .inl rfl, .inl rfl, trivial⟩
    ·replace H := iff_ h26 H
     refine awp_skip ?_
     refine awp_plain hN rfl ?_
     refine qd rfl ?_
     refine seq_run0 (stp_wrap _ rfl rfl (.inr (.inr ⟨rfl, rfl⟩))) ?_
     refine qd rfl ?_
     refine seq_run0 (stp_conv tyU5 tyU3 rfl) ?_
     refine seq_run0 (stp_wrap _ rfl rfl (.inl ⟨rfl, rfl⟩)) ?_
     refine qe rfl ?_
     refine awp_plain hN rfl ?_
     refine seq_run0 (stp_add rfl rfl (by omega)) ?_
     refine qd rfl ?_
     exact ⟨_, backl H, ⟨rfl, rfl, rfl, rfl, rfl, trivial⟩, trivial⟩
 ·replace H := iff_ h2 H
  refine awp_skip ?_
  refine awp_seq ?_
  refine awp_plain hN rfl ?_
  refine qd rfl ?_
  obtain ⟨r27, h28, H⟩ := bnd H
  refine seq_run0 (stp_call (k_internal_strconv_ParseInt v1 10 0 r27 h28) ⟨.inl rfl, .inl rfl, .inl rfl, trivial⟩) ?_
  refine qd rfl ?_
  refine seq_run0 (stp_ext rfl rfl) ?_
  refine seq_run0 (stp_ext rfl rfl) ?_
  refine qe rfl ?_
  refine qe rfl ?_
  refine awp_seq ?_
  refine awp_plain hN rfl ?_
  refine qd rfl ?_
  refine qd rfl ?_
  refine qe rfl ?_
  refine qe rfl ?_
  refine awp_ret ?_
  cases H
  exact ⟨trivial, .inl rfl, .inl rfl, trivial⟩
theorem k_strconv_toError (fn s : Bs) (base bits e r : Int) (H : m_strconv_toError fn s base bits e = some r) : Fn Tryz.prog 167 [vstr fn, vstr s, vint base, vint bits, verr e] (resOf [verr r]) := by
 obtain ⟨⟨h1, h2, h3⟩, h4⟩ := gif H
 cases h4
 refine fn_of_callsG (by kernel_rfl) fun M w vs hM h => ?_
 rcases h3 with rfl | rfl
 ·have hv := Ts_vals (us := [.string ⟨fn.toArray⟩, .string ⟨s.toArray⟩, .int .i64 base, .int .i64 bits, .iface 169 (.int .i64 2)]) h
  subst hv
  obtain ⟨tp, p, hc⟩ := ErrSyntax_cell hM
  refine (Tryz.strconv_toError_syntax ⟨fn.toArray⟩ ⟨s.toArray⟩ base bits (.iface tp p) w (by simp [ByteArray.size]; omega) hc (.inr ⟨tp, p, rfl⟩)).mono ?_
  rintro e w' ⟨N, rfl, _, _, hb⟩
  exact ⟨_, rfl, ⟨_, _, rfl⟩, Kp.of_below hb⟩
 ·have hv := Ts_vals (us := [.string ⟨fn.toArray⟩, .string ⟨s.toArray⟩, .int .i64 base, .int .i64 bits, .iface 169 (.int .i64 1)]) h
  subst hv
  obtain ⟨tp, p, hc⟩ := ErrRange_cell hM
  refine (Tryz.strconv_toError_range ⟨fn.toArray⟩ ⟨s.toArray⟩ base bits (.iface tp p) w (by simp [ByteArray.size]; omega) hc (.inr ⟨tp, p, rfl⟩)).mono ?_
  rintro e w' ⟨N, rfl, _, _, hb⟩
  exact ⟨_, rfl, ⟨_, _, rfl⟩, Kp.of_below hb⟩
theorem k_strconv_Atoi (s1 : Bs) (r : (Int × Int)) (H : m_strconv_Atoi s1 = some r) : Fn Tryz.prog 147 [vstr s1] (resOf [vint r.1, verr r.2]) := by
 refine ⟨by kernel_rfl, pure_of (us := [vint r.1, verr r.2]) Tryz.func147 rfl rfl rfl rfl fun X hN => ?_⟩
 unfold m_strconv_Atoi at H
 refine awp_seq ?_
 refine awp_plain hN rfl ?_
 refine qe rfl ?_
 refine qe rfl ?_
 refine awp_seq ?_
 refine awp_plain hN rfl ?_
 refine qd rfl ?_
 obtain ⟨r2, h3, H⟩ := bnd H
 refine seq_run0 (stp_call (k_internal_strconv_Atoi s1 r2 h3) ⟨.inl rfl, trivial⟩) ?_
 refine qd rfl ?_
 refine seq_run0 (stp_ext rfl rfl) ?_
 refine seq_run0 (stp_ext rfl rfl) ?_
 refine qe rfl ?_
 refine qe rfl ?_
 refine awp_seq ?_
 refine awp_seq ?_
 refine awp_plain hN rfl ?_
 refine qd rfl ?_
 refine seq_run0 (stp_errneq (n := r2.2) (show Tryz.prog.underlying 83 = some (.interface (Tryz.prog.methodsAt 83)) from by kernel_rfl) rfl) ?_
 refine awp_cond _ rfl (fun h4 => ?_) (fun h4 => ?_)
 ·replace H := ift h4 H
  refine awp_seq ?_
  refine awp_plain hN rfl ?_
  refine qd rfl ?_
  refine qd rfl ?_
  refine qd rfl ?_
  obtain ⟨r5, h6, H⟩ := bnd H
  refine seq_run0 (stp_call (k_strconv_toError [65, 116, 111, 105] s1 0 0 r2.2 r5 h6) ⟨.inl rfl, .inl rfl, .inl rfl, .inl rfl, .inl rfl, trivial⟩) ?_
  refine qe rfl ?_
  refine qe rfl ?_
  refine awp_ret ?_
  cases H
  exact ⟨trivial, .inl rfl, .inl rfl, trivial⟩
 ·replace H := iff_ h4 H
  refine awp_skip ?_
  refine awp_seq ?_
  refine awp_plain hN rfl ?_
  refine qd rfl ?_
  refine qe rfl ?_
  refine qe rfl ?_
  refine awp_ret ?_
  cases H
  exact ⟨trivial, .inl rfl, .inl rfl, trivial⟩
theorem k_kit_Number (s1 : Bs) (most2 : Int) (r : (Int × Bool)) (H : m_kit_Number s1 most2 = some r) : Fn Tryz.prog 135 [vstr s1, vint most2] (resOf [vint r.1, vbool r.2]) := by
 refine ⟨by kernel_rfl, pure_of (us := [vint r.1, vbool r.2]) Tryz.func135 rfl rfl rfl rfl fun X hN => ?_⟩
 unfold m_kit_Number at H
 refine awp_seq ?_
 refine awp_plain hN rfl ?_
 refine qe rfl ?_
 refine qe rfl ?_
 refine awp_seq ?_
 refine awp_plain hN rfl ?_
 refine qd rfl ?_
 obtain ⟨r3, h4, H⟩ := bnd H
 refine seq_run0 (stp_call (k_strings_TrimPrefix s1 [45] r3 h4) ⟨.inl rfl, .inl rfl, trivial⟩) ?_
 refine qe rfl ?_
 refine awp_seq ?_
 refine awp_joinE (ι := Bool) (fun i => [(0, .dat (vstr s1)), (6, .dat (vstr r3)), (28, .dat (vbool i))]) (fun i => []) (fun i => kit_Number_J1 s1 r3 i = some r) (fun i => rfl) ?_ ?_
 ·skip
  refine awp_plain hN rfl ?_
  refine qd rfl ?_
  refine seq_run0 (stp_seql rfl rfl) ?_
  refine qd rfl ?_
  refine seq_split (j := 2) rfl rfl (fun h5 => ?_) (fun h5 => ?_) rfl
  ·have h6 := un3 h5
   replace H := iff_ h6 H
   refine seq_g0 rfl rfl h5 (stp_move (.dat _) rfl) ?_
   refine seq_g0 rfl rfl h5 (stp_len_str tyU9 rfl) ?_
   refine seq_g0 rfl rfl h5 (stp_move (.dat _) rfl) ?_
   refine seq_g0 rfl rfl h5 (stp_gtr rfl rfl) ?_
   refine seq_run0 (stp_pick_f rfl (bFF h6) rfl) ?_
   refine qd rfl ?_
   refine seq_split (j := 8) rfl rfl (fun h7 => ?_) (fun h7 => ?_) rfl
   ·have h8 := un3 h7
    replace H := iff_ h8 H
    refine seq_g0 rfl rfl h7 (stp_move (.dat _) rfl) ?_
    obtain ⟨x9, h10, H⟩ := bnd H
    refine seq_g0 rfl rfl h7 (t_byte tyU9 rfl rfl h10) ?_
    refine seq_g0 rfl rfl h7 (stp_eql rfl rfl) ?_
    refine seq_g0 rfl rfl h7 (stp_move (.dat _) rfl) ?_
    refine seq_split (j := 12) rfl rfl (fun h11 => ?_) (fun h11 => ?_) rfl
    ·have h12 := un1 h11
     replace H := ift h12 H
     refine seq_g0 rfl rfl h11 (stp_move (.dat _) rfl) ?_
     refine seq_g0 rfl rfl h11 (stp_sneq rfl rfl) ?_
     refine seq_g0 rfl rfl h7 (stp_pick_t rfl (bTT h12) rfl) ?_
     refine seq_run0 (stp_pick_f rfl (bFF h8) rfl) ?_
     exact ⟨decide (s1 ≠ [48]), H, ⟨rfl, rfl, rfl, trivial⟩, trivial⟩
    ·have h13 := un2 h11
     replace H := iff_ h13 H
     refine seq_skip rfl rfl h11 ?_
     refine seq_skip rfl rfl h11 ?_
     refine seq_g0 rfl rfl h7 (stp_pick_f rfl (bFF h13) rfl) ?_
     refine seq_run0 (stp_pick_f rfl (bFF h8) rfl) ?_
     exact ⟨false, H, ⟨rfl, rfl, rfl, trivial⟩, trivial⟩
   ·have h14 := un4 h7
    replace H := ift h14 H
    refine seq_skip rfl rfl h7 ?_
    refine seq_skip rfl rfl h7 ?_
    refine seq_skip rfl rfl h7 ?_
    refine seq_skip rfl rfl h7 ?_
    refine seq_skipU rfl rfl ?_
    refine seq_skipU rfl rfl ?_
    refine seq_skip rfl rfl h7 ?_
    refine seq_run0 (stp_pick_t rfl (bTT h14) rfl) ?_
    exact ⟨true, H, ⟨rfl, rfl, rfl, trivial⟩, trivial⟩
  ·have h15 := un4 h5
   replace H := ift h15 H
   refine seq_skip rfl rfl h5 ?_
   refine seq_skip rfl rfl h5 ?_
   refine seq_skip rfl rfl h5 ?_
   refine seq_skip rfl rfl h5 ?_
   refine seq_run0 (stp_pick_t rfl (bTT h15) rfl) ?_
   refine qd rfl ?_
   refine seq_skip rfl rfl rfl ?_
   refine seq_skip rfl rfl rfl ?_
   refine seq_skip rfl rfl rfl ?_
   refine seq_skip rfl rfl rfl ?_
   refine seq_skipU rfl rfl ?_
   refine seq_skipU rfl rfl ?_
   refine seq_skip rfl rfl rfl ?_
   refine seq_run0 (stp_pick_t rfl rfl rfl) ?_
   exact ⟨true, H, ⟨rfl, rfl, rfl, trivial⟩, trivial⟩
 ·rintro v16 H
  replace H : kit_Number_J1 s1 r3 v16 = some r := H
  unfold kit_Number_J1 at H
  refine awp_cond _ rfl (fun h17 => ?_) (fun h17 => ?_)
  ·replace H := ift h17 H
   refine awp_seq ?_
   refine awp_plain hN rfl ?_
   refine qe rfl ?_
   refine qe rfl ?_
   refine awp_ret ?_
   cases H
   exact ⟨trivial, .inl rfl, .inl rfl, trivial⟩
  ·replace H := iff_ h17 H
   refine awp_skip ?_
   refine awp_seq ?_
   refine awp_seq ?_
   refine awp_plain hN rfl ?_
   refine qe rfl ?_
   refine awp_block ?_
   obtain ⟨h20, H⟩ := gif H
   refine awp_forL (fun (i18 : Nat) (s : Unit) => [(0, .dat (vstr s1)), (6, .dat (vstr r3)), (7, .dat (vint (i18 : Int)))]) (fun (i18 : Nat) (s : Unit) => []) () H ⟨rfl, rfl, rfl, trivial⟩ trivial (fun _ _ => rfl) ?_ ?_
   ·rintro ⟨⟩ H
    replace H : kit_Number_E2 s1 = some r := H
    unfold kit_Number_E2 at H
    refine awp_seq ?_
    refine awp_seq ?_
    refine awp_plain hN rfl ?_
    refine qd rfl ?_
    refine qd rfl ?_
    refine seq_run0 (stp_len_str tyU9 rfl) ?_
    refine seq_run0 (stp_lss rfl rfl) ?_
    refine awp_cond _ rfl (fun h => (lt_t h).elim) (fun h => ?_)
    refine awp_exit ?_
    refine awp_seq ?_
    refine awp_plain hN rfl ?_
    refine qd rfl ?_
    obtain ⟨r22, h23, H⟩ := bnd H
    refine seq_run0 (stp_call (k_strconv_Atoi s1 r22 h23) ⟨.inl rfl, trivial⟩) ?_
    refine qd rfl ?_
    refine seq_run0 (stp_ext rfl rfl) ?_
    refine seq_run0 (stp_ext rfl rfl) ?_
    refine qe rfl ?_
    refine qe rfl ?_
    refine awp_seq ?_
    refine awp_draw mixed hN rfl rfl ?_
    refine qd rfl ?_
    refine qd rfl ?_
    refine seq_run0 (stp_erreql (n := r22.2) (show Tryz.prog.underlying 83 = some (.interface (Tryz.prog.methodsAt 83)) from by kernel_rfl) rfl) ?_
    refine qe rfl ?_
    refine qe rfl ?_
    refine ⟨rfl, ?_⟩
    refine awp_ret ?_
    cases H
    exact ⟨trivial, .inl rfl, .inl rfl, trivial⟩
   ·rintro i18 x21 ⟨⟩ q19 h24 h25 H hq19
    replace H : kit_Number_L2 i18 x21 = some q19 := H
    unfold kit_Number_L2 at H
    refine awp_seq ?_
    refine awp_seq ?_
    refine awp_plain hN rfl ?_
    refine qd rfl ?_
    refine qd rfl ?_
    refine seq_run0 (stp_len_str tyU9 rfl) ?_
    refine seq_run0 (stp_lss rfl rfl) ?_
    refine awp_cond _ rfl (fun h => ?_) (fun h => (lt_f h24 h).elim)
    refine awp_skip ?_
    refine awp_seq ?_
    refine awp_block ?_
    refine awp_joinE (ι := Bool) (fun i => [(0, .dat (vstr s1)), (6, .dat (vstr r3)), (7, .dat (vint (i18 : Int))), (44, .dat (vbool i))]) (fun i => []) (fun i => kit_Number_J3 i = some q19) (fun i => rfl) ?_ ?_
    ·skip
     refine awp_plain hN rfl ?_
     refine qd rfl ?_
     refine qd rfl ?_
     refine seq_run0 (t_byte tyU9 rfl rfl h25) ?_
     refine seq_run0 (stp_lss rfl rfl) ?_
     refine qd rfl ?_
     refine seq_split (j := 4) rfl rfl (fun h26 => ?_) (fun h26 => ?_) rfl
     ·have h27 := un3 h26
      replace H := iff_ h27 H
      refine seq_g0 rfl rfl h26 (stp_move (.dat _) rfl) ?_
      refine seq_g0 rfl rfl h26 (stp_move (.dat _) rfl) ?_
      refine seq_g0 rfl rfl h26 (t_byte tyU9 rfl rfl h25) ?_
      refine seq_g0 rfl rfl h26 (stp_gtr rfl rfl) ?_
      refine seq_run0 (stp_pick_f rfl (bFF h27) rfl) ?_
      exact ⟨decide (57 < (x21.toNat : Int)), H, ⟨rfl, rfl, rfl, rfl, trivial⟩, trivial⟩
     ·have h28 := un4 h26
      replace H := ift h28 H
      refine seq_skip rfl rfl h26 ?_
      refine seq_skip rfl rfl h26 ?_
      refine seq_skip rfl rfl h26 ?_
      refine seq_skip rfl rfl h26 ?_
      refine seq_run0 (stp_pick_t rfl (bTT h28) rfl) ?_
      exact ⟨true, H, ⟨rfl, rfl, rfl, rfl, trivial⟩, trivial⟩
    ·rintro v29 H
     replace H : kit_Number_J3 v29 = some q19 := H
     unfold kit_Number_J3 at H
     refine awp_cond _ rfl (fun h30 => ?_) (fun h30 => ?_)
     ·replace H := ift h30 H
      refine awp_seq ?_
      refine awp_plain hN rfl ?_
      refine qe rfl ?_
      refine qe rfl ?_
      refine awp_ret ?_
      replace H := retl H hq19
      cases H
      exact ⟨trivial, .inl rfl, .inl rfl, trivial⟩
     ·replace H := iff_ h30 H
      refine awp_skip ?_
      refine awp_plain hN rfl ?_
      refine qd rfl ?_
      refine seq_run0 (stp_add rfl rfl (by omega)) ?_
      refine qe rfl ?_
      exact ⟨_, backl H, ⟨rfl, rfl, rfl, trivial⟩, trivial⟩
theorem k_kit_Small (s1 : Bs) (r : (Int × Bool)) (H : m_kit_Small s1 = some r) : Fn Tryz.prog 107 [vstr s1] (resOf [vint r.1, vbool r.2]) := by
 refine ⟨by kernel_rfl, pure_of (us := [vint r.1, vbool r.2]) Tryz.func107 rfl rfl rfl rfl fun X hN => ?_⟩
 unfold m_kit_Small at H
 refine awp_seq ?_
 refine awp_plain hN rfl ?_
 refine qe rfl ?_
 refine qe rfl ?_
 refine awp_seq ?_
 refine awp_plain hN rfl ?_
 refine qd rfl ?_
 obtain ⟨r2, h3, H⟩ := bnd H
 refine seq_run0 (stp_call (k_kit_Number s1 9 r2 h3) ⟨.inl rfl, .inl rfl, trivial⟩) ?_
 refine seq_run0 (stp_ext rfl rfl) ?_
 refine seq_run0 (stp_ext rfl rfl) ?_
 refine qe rfl ?_
 refine qe rfl ?_
 refine awp_ret ?_
 cases H
 exact ⟨trivial, .inl rfl, .inl rfl, trivial⟩
theorem k_kit_Outside (n1 : Int) (low2 : Int) (high3 : Int) (r : (Bool)) (H : m_kit_Outside n1 low2 high3 = some r) : Fn Tryz.prog 108 [vint n1, vint low2, vint high3] (resOf [vbool r]) := by
 refine ⟨by kernel_rfl, pure_of (us := [vbool r]) Tryz.func108 rfl rfl rfl rfl fun X hN => ?_⟩
 unfold m_kit_Outside at H
 refine awp_seq ?_
 refine awp_plain hN rfl ?_
 refine qe rfl ?_
 refine awp_seq ?_
 refine awp_plain hN rfl ?_
 refine qd rfl ?_
 refine qd rfl ?_
 refine seq_run0 (stp_lss rfl rfl) ?_
 refine qd rfl ?_
 refine seq_aF rfl rfl (fun hc => stp_move (.dat _) rfl) ?_
 refine seq_aF rfl rfl (fun hc => stp_move (.dat _) rfl) ?_
 refine seq_aF rfl rfl (fun hc => stp_gtr (cnd (c := (!(decide (n1 < low2)))) hc) (cnd (c := (!(decide (n1 < low2)))) hc)) ?_
 refine seq_run0 (stp_pick_or rfl rfl (fun hb => (cnd (c := (!(decide (n1 < low2)))) (notI hb)))) ?_
 refine qe rfl ?_
 refine awp_ret ?_
 cases H
 exact ⟨trivial, .inl rfl, trivial⟩
theorem k_message_isLabel (s1 : Bs) (r : (Bool)) (H : m_message_isLabel s1 = some r) : Fn Tryz.prog 106 [vstr s1] (resOf [vbool r]) := by
 refine ⟨by kernel_rfl, pure_of (us := [vbool r]) Tryz.func106 rfl rfl rfl rfl fun X hN => ?_⟩
 unfold m_message_isLabel at H
 refine awp_seq ?_
 refine awp_plain hN rfl ?_
 refine qe rfl ?_
 refine awp_seq ?_
 refine awp_seq ?_
 refine awp_plain hN rfl ?_
 refine qd rfl ?_
 refine seq_run0 (stp_len_str tyU9 rfl) ?_
 refine qd rfl ?_
 refine awp_block ?_
 obtain ⟨h4, H⟩ := gif H
 refine awp_forL (fun (k2 : Nat) (s : Unit) => [(0, .dat (vstr s1)), (5, .dat (vint (s1.length : Int))), (6, .dat (vint (k2 : Int)))]) (fun (k2 : Nat) (s : Unit) => []) () H ⟨rfl, rfl, rfl, trivial⟩ trivial (fun _ _ => rfl) ?_ ?_
 ·rintro ⟨⟩ H
  replace H : message_isLabel_E1 s1 = some r := H
  unfold message_isLabel_E1 at H
  refine awp_seq ?_
  refine awp_plain hN rfl ?_
  refine seq_run0 (stp_lss rfl rfl) ?_
  refine awp_seq ?_
  refine awp_cond _ rfl (fun h => (lt_t h).elim) (fun h => ?_)
  refine awp_exit ?_
  refine awp_joinE (ι := Bool) (fun i => [(2, .dat (vbool i))]) (fun i => []) (fun i => message_isLabel_J2 i = some r) (fun i => rfl) ?_ ?_
  ·skip
   refine awp_plain hN rfl ?_
   refine qd rfl ?_
   refine seq_run0 (stp_sneq rfl rfl) ?_
   refine qd rfl ?_
   refine seq_split (j := 2) rfl rfl (fun h6 => ?_) (fun h6 => ?_) rfl
   ·have h7 := un1 h6
    replace H := ift h7 H
    refine seq_g0 rfl rfl h6 (stp_move (.dat _) rfl) ?_
    refine seq_g0 rfl rfl h6 (stp_len_str tyU9 rfl) ?_
    refine seq_g0 rfl rfl h6 (stp_leq rfl rfl) ?_
    refine seq_run0 (stp_pick_t rfl (bTT h7) rfl) ?_
    refine qd rfl ?_
    refine seq_split (j := 7) rfl rfl (fun h8 => ?_) (fun h8 => ?_) rfl
    ·have h9 := un1 h8
     replace H := ift h9 H
     refine seq_g0 rfl rfl h8 (stp_move (.dat _) rfl) ?_
     obtain ⟨x10, h11, H⟩ := bnd H
     refine seq_g0 rfl rfl h8 (t_byte tyU9 rfl rfl h11) ?_
     refine seq_g0 rfl rfl h8 (stp_neq rfl rfl) ?_
     refine seq_run0 (stp_pick_t rfl (bTT h9) rfl) ?_
     refine qd rfl ?_
     refine seq_split (j := 12) rfl rfl (fun h12 => ?_) (fun h12 => ?_) rfl
     ·have h13 := un1 h12
      replace H := ift h13 H
      refine seq_g0 rfl rfl h12 (stp_move (.dat _) rfl) ?_
      refine seq_g0 rfl rfl h12 (stp_move (.dat _) rfl) ?_
      refine seq_g0 rfl rfl h12 (stp_len_str tyU9 rfl) ?_
      refine seq_g0 rfl rfl h12 (stp_wrap _ rfl rfl (.inr (.inl ⟨rfl, rfl⟩))) ?_
      obtain ⟨x14, h15, H⟩ := bnd H
      refine seq_g0 rfl rfl h12 (t_byteI tyU9 rfl rfl h15) ?_
      refine seq_g0 rfl rfl h12 (stp_neq rfl rfl) ?_
      refine seq_run0 (stp_pick_t rfl (bTT h13) rfl) ?_
      refine qe rfl ?_
      exact ⟨decide ((x14.toNat : Int) ≠ 45), H, ⟨rfl, trivial⟩, trivial⟩
     ·have h16 := un2 h12
      replace H := iff_ h16 H
      refine seq_skip rfl rfl h12 ?_
      refine seq_skip rfl rfl h12 ?_
      refine seq_skip rfl rfl h12 ?_
      refine seq_skip rfl rfl h12 ?_
      refine seq_skip rfl rfl h12 ?_
      refine seq_skip rfl rfl h12 ?_
      refine seq_run0 (stp_pick_f rfl (bFF h16) rfl) ?_
      refine qe rfl ?_
      exact ⟨false, H, ⟨rfl, trivial⟩, trivial⟩
    ·have h17 := un2 h8
     replace H := iff_ h17 H
     refine seq_skip rfl rfl h8 ?_
     refine seq_skip rfl rfl h8 ?_
     refine seq_skip rfl rfl h8 ?_
     refine seq_run0 (stp_pick_f rfl (bFF h17) rfl) ?_
     refine qd rfl ?_
     refine seq_skip rfl rfl rfl ?_
     refine seq_skip rfl rfl rfl ?_
     refine seq_skip rfl rfl rfl ?_
     refine seq_skip rfl rfl rfl ?_
     refine seq_skip rfl rfl rfl ?_
     refine seq_skip rfl rfl rfl ?_
     refine seq_run0 (stp_pick_f rfl rfl rfl) ?_
     refine qe rfl ?_
     exact ⟨false, H, ⟨rfl, trivial⟩, trivial⟩
   ·have h18 := un2 h6
    replace H := iff_ h18 H
    refine seq_skip rfl rfl h6 ?_
    refine seq_skip rfl rfl h6 ?_
    refine seq_skip rfl rfl h6 ?_
    refine seq_run0 (stp_pick_f rfl (bFF h18) rfl) ?_
    refine qd rfl ?_
    refine seq_skip rfl rfl rfl ?_
    refine seq_skip rfl rfl rfl ?_
    refine seq_skip rfl rfl rfl ?_
    refine seq_run0 (stp_pick_f rfl rfl rfl) ?_
    refine qd rfl ?_
    refine seq_skip rfl rfl rfl ?_
    refine seq_skip rfl rfl rfl ?_
    refine seq_skip rfl rfl rfl ?_
    refine seq_skip rfl rfl rfl ?_
    refine seq_skip rfl rfl rfl ?_
    refine seq_skip rfl rfl rfl ?_
    refine seq_run0 (stp_pick_f rfl rfl rfl) ?_
    refine qe rfl ?_
    exact ⟨false, H, ⟨rfl, trivial⟩, trivial⟩
  ·rintro v19 H
   replace H : message_isLabel_J2 v19 = some r := H
   unfold message_isLabel_J2 at H
   refine awp_ret ?_
   cases H
   exact ⟨trivial, .inl rfl, trivial⟩
 ·rintro k2 x5 ⟨⟩ q3 h20 h21 H hq3
  replace H : message_isLabel_L1 k2 x5 = some q3 := H
  unfold message_isLabel_L1 at H
  refine awp_seq ?_
  refine awp_plain hN rfl ?_
  refine seq_run0 (stp_lss rfl rfl) ?_
  refine awp_seq ?_
  refine awp_cond _ rfl (fun h => ?_) (fun h => (lt_f h20 h).elim)
  refine awp_skip ?_
  refine awp_seq ?_
  refine awp_block ?_
  refine awp_seq ?_
  refine awp_plain hN rfl ?_
  refine qd rfl ?_
  refine qe rfl ?_
  refine awp_joinE (ι := Bool) (fun i => [(0, .dat (vstr s1)), (5, .dat (vint (s1.length : Int))), (6, .dat (vint (k2 : Int))), (26, .dat (vbool i))]) (fun i => []) (fun i => message_isLabel_J3 i = some q3) (fun i => rfl) ?_ ?_
  ·skip
   refine awp_plain hN rfl ?_
   refine qd rfl ?_
   refine qd rfl ?_
   refine seq_run0 (t_byte tyU9 rfl rfl h21) ?_
   obtain ⟨r22, h23, H⟩ := bnd H
   refine seq_run0 (stp_call (k_message_isLetter (x5.toNat : Int) r22 h23) ⟨.inl rfl, trivial⟩) ?_
   refine seq_run0 (stp_not rfl) ?_
   refine qd rfl ?_
   refine seq_split (j := 5) rfl rfl (fun h24 => ?_) (fun h24 => ?_) rfl
   ·have h25 := un1 h24
    replace H := ift h25 H
    refine seq_g0 rfl rfl h24 (stp_move (.dat _) rfl) ?_
    refine seq_g0 rfl rfl h24 (stp_move (.dat _) rfl) ?_
    refine seq_g0 rfl rfl h24 (t_byte tyU9 rfl rfl h21) ?_
    obtain ⟨r26, h27, H⟩ := bnd H
    refine seq_g0 rfl rfl h24 (stp_call (k_message_isDigit (x5.toNat : Int) r26 h27) ⟨.inl rfl, trivial⟩) ?_
    refine seq_g0 rfl rfl h24 (stp_not rfl) ?_
    refine seq_run0 (stp_pick_t rfl (bTT h25) rfl) ?_
    refine qd rfl ?_
    refine seq_split (j := 12) rfl rfl (fun h28 => ?_) (fun h28 => ?_) rfl
    ·have h29 := un1 h28
     replace H := ift h29 H
     refine seq_g0 rfl rfl h28 (stp_move (.dat _) rfl) ?_
     refine seq_g0 rfl rfl h28 (stp_move (.dat _) rfl) ?_
     refine seq_g0 rfl rfl h28 (t_byte tyU9 rfl rfl h21) ?_
     refine seq_g0 rfl rfl h28 (stp_neq rfl rfl) ?_
     refine seq_run0 (stp_pick_t rfl (bTT h29) rfl) ?_
     exact ⟨decide ((x5.toNat : Int) ≠ 45), H, ⟨rfl, rfl, rfl, rfl, trivial⟩, trivial⟩
    ·have h30 := un2 h28
     replace H := iff_ h30 H
     refine seq_skip rfl rfl h28 ?_
     refine seq_skip rfl rfl h28 ?_
     refine seq_skip rfl rfl h28 ?_
     refine seq_skip rfl rfl h28 ?_
     refine seq_run0 (stp_pick_f rfl (bFF h30) rfl) ?_
     exact ⟨false, H, ⟨rfl, rfl, rfl, rfl, trivial⟩, trivial⟩
   ·have h31 := un2 h24
    replace H := iff_ h31 H
    refine seq_skip rfl rfl h24 ?_
    refine seq_skip rfl rfl h24 ?_
    refine seq_skip rfl rfl h24 ?_
    refine seq_skip rfl rfl h24 ?_
    refine seq_skip rfl rfl h24 ?_
    refine seq_run0 (stp_pick_f rfl (bFF h31) rfl) ?_
    refine qd rfl ?_
    refine seq_skip rfl rfl rfl ?_
    refine seq_skip rfl rfl rfl ?_
    refine seq_skip rfl rfl rfl ?_
    refine seq_skip rfl rfl rfl ?_
    refine seq_run0 (stp_pick_f rfl rfl rfl) ?_
    exact ⟨false, H, ⟨rfl, rfl, rfl, rfl, trivial⟩, trivial⟩
  ·rintro v32 H
   replace H : message_isLabel_J3 v32 = some q3 := H
   unfold message_isLabel_J3 at H
   refine awp_cond _ rfl (fun h33 => ?_) (fun h33 => ?_)
   ·replace H := ift h33 H
    refine awp_seq ?_
    refine awp_plain hN rfl ?_
    refine qe rfl ?_
    refine awp_ret ?_
    replace H := retl H hq3
    cases H
    exact ⟨trivial, .inl rfl, trivial⟩
   ·replace H := iff_ h33 H
    refine awp_skip ?_
    refine awp_plain hN rfl ?_
    refine seq_run0 (stp_add rfl rfl (by omega)) ?_
    refine qd rfl ?_
    exact ⟨_, backl H, ⟨rfl, rfl, rfl, trivial⟩, trivial⟩
end Go.Proofs.YtgjfcdcpiamikaaGreatDoor
