/- Walks along the models. Printed by a program. -/
import Derived.Test.YtloinbpihpcblaaGreatDoorZaw4
namespace Go.Proofs.YtloinbpihpcblaaGreatDoor
open Go.RowKit
set_option linter.unusedVariables false
set_option maxRecDepth 20000
set_option maxHeartbeats 2000000
theorem k_internal_strconv_ParseInt (v1 : Bs) (v2 : Int) (v3 : Int) (r : (Int × Int)) (H : m_internal_strconv_ParseInt v1 v2 v3 = some r) : Fn Tryz.prog 125 [vstr v1, vint v2, vint v3] (resOf [vint r.1, verr r.2]) := by
 refine ⟨by kernel_rfl, pure_of (us := [vint r.1, verr r.2]) Tryz.func125 rfl rfl rfl rfl fun X hN => ?_⟩
 unfold m_internal_strconv_ParseInt at H
 refine awp_seq ?_
 refine awp_plain hN rfl ?_
 refine qe rfl ?_
 refine qe rfl ?_
 refine awp_seq ?_
 refine awp_seq ?_
 refine awp_plain hN rfl ?_
 refine qd rfl ?_
 refine seq_run0 (stp_seql rfl rfl) ?_
 refine awp_cond _ rfl (fun h4 => ?_) (fun h4 => ?_)
 ·replace H := ift h4 H
  refine awp_seq ?_
  refine awp_plain hN rfl ?_
  refine seq_run0 (stp_dat (u' := verr 2) (stp_mkErr (show Tryz.prog.underlying 147 = some (.int .i64) from by kernel_rfl) rfl) rfl) ?_
  refine qe rfl ?_
  refine qe rfl ?_
  refine awp_ret ?_
  cases H
  exact ⟨trivial, .inl rfl, .inl rfl, trivial⟩
 ·replace H := iff_ h4 H
  refine awp_skip ?_
  refine awp_seq ?_
  refine awp_plain hN rfl ?_
  refine qe rfl ?_
  refine awp_joinE (ι := Bs × Bool) (fun i => [(0, .dat (vstr i.1)), (1, .dat (vint v2)), (2, .dat (vint v3)), (8, .dat (vbool i.2))]) (fun i => []) (fun i => internal_strconv_ParseInt_J1 v2 v3 i.1 i.2 = some r) (fun i => rfl) ?_ ?_
  ·skip
   refine awp_seq ?_
   refine awp_plain hN rfl ?_
   refine qd rfl ?_
   obtain ⟨x5, h6, H⟩ := bnd H
   refine seq_run0 (t_byte tyU9 rfl rfl h6) ?_
   refine awp_block ?_
   refine awp_seq ?_
   refine awp_plain hN rfl ?_
   refine seq_run0 (stp_eql rfl rfl) ?_
   refine qe rfl ?_
   refine awp_cond _ rfl (fun h7 => ?_) (fun h7 => ?_)
   ·replace H := ift h7 H
    refine awp_plain hN rfl ?_
    refine qd rfl ?_
    obtain ⟨l8, h9, H⟩ := bnd H
    refine seq_run0 (t_subS tyU9 rfl rfl rfl h9) ?_
    refine qe rfl ?_
    exact ⟨(l8, false), H, ⟨rfl, rfl, rfl, rfl, trivial⟩, trivial⟩
   ·replace H := iff_ h7 H
    refine awp_seq ?_
    refine awp_plain hN rfl ?_
    refine seq_run0 (stp_eql rfl rfl) ?_
    refine qe rfl ?_
    refine awp_cond _ rfl (fun h10 => ?_) (fun h10 => ?_)
    ·replace H := ift h10 H
     refine awp_seq ?_
     refine awp_plain hN rfl ?_
     refine qd rfl ?_
     obtain ⟨l11, h12, H⟩ := bnd H
     refine seq_run0 (t_subS tyU9 rfl rfl rfl h12) ?_
     refine qe rfl ?_
     refine awp_plain hN rfl ?_
     refine qe rfl ?_
     exact ⟨(l11, true), H, ⟨rfl, rfl, rfl, rfl, trivial⟩, trivial⟩
    ·replace H := iff_ h10 H
     refine awp_skip ?_
     exact ⟨(v1, false), H, ⟨rfl, rfl, rfl, rfl, trivial⟩, trivial⟩
  ·rintro ⟨v13, v14⟩ H
   replace H : internal_strconv_ParseInt_J1 v2 v3 v13 v14 = some r := H
   unfold internal_strconv_ParseInt_J1 at H
   refine awp_seq ?_
   refine awp_plain hN rfl ?_
   refine qe rfl ?_
   refine awp_seq ?_
   refine awp_plain hN rfl ?_
   refine qd rfl ?_
   refine qd rfl ?_
   refine qd rfl ?_
   obtain ⟨r15, h16, H⟩ := bnd H
   refine seq_run0 (stp_call (k_internal_strconv_ParseUint v13 v2 v3 r15 h16) ⟨.inl rfl, .inl rfl, .inl rfl, trivial⟩) ?_
   refine qd rfl ?_
   refine seq_run0 (stp_ext rfl rfl) ?_
   refine seq_run0 (stp_ext rfl rfl) ?_
   refine qe rfl ?_
   refine qe rfl ?_
   refine awp_seq ?_
   refine awp_joinE (ι := Bool) (fun i => [(2, .dat (vint v3)), (7, .dat (verr r15.2)), (8, .dat (vbool v14)), (9, .dat (vval (.int .u64 r15.1))), (38, .dat (vbool i))]) (fun i => []) (fun i => internal_strconv_ParseInt_J2 v3 v14 r15 i = some r) (fun i => rfl) ?_ ?_
   ·skip
    refine awp_plain hN rfl ?_
    refine qd rfl ?_
    refine seq_run0 (stp_errneq (n := r15.2) (show Tryz.prog.underlying 80 = some (.interface (Tryz.prog.methodsAt 80)) from by kernel_rfl) rfl) ?_
    refine qd rfl ?_
    refine seq_split (j := 2) rfl rfl (fun h17 => ?_) (fun h17 => ?_) rfl
    ·have h18 := un1 h17
     replace H := ift h18 H
     refine seq_g0 rfl rfl h17 (stp_move (.dat _) rfl) ?_
     refine seq_g0 rfl rfl h17 (stp_dat (u' := verr 1) (stp_mkErr (show Tryz.prog.underlying 147 = some (.int .i64) from by kernel_rfl) rfl) rfl) ?_
     obtain ⟨h19, H⟩ := gif H
     refine seq_g0 rfl rfl h17 (stp_errneqK (n := r15.2) (m := 1) (show Tryz.prog.underlying 80 = some (.interface (Tryz.prog.methodsAt 80)) from by kernel_rfl) (by kernel_rfl) (by kernel_rfl) rfl rfl h19 (by decide)) ?_
     refine seq_run0 (stp_pick_t rfl (bTT h18) rfl) ?_
     exact ⟨decide (r15.2 ≠ 1), H, ⟨rfl, rfl, rfl, rfl, rfl, trivial⟩, trivial⟩
    ·have h20 := un2 h17
     replace H := iff_ h20 H
     refine seq_skip rfl rfl h17 ?_
     refine seq_skip rfl rfl h17 ?_
     refine seq_skip rfl rfl h17 ?_
     refine seq_run0 (stp_pick_f rfl (bFF h20) rfl) ?_
     exact ⟨false, H, ⟨rfl, rfl, rfl, rfl, rfl, trivial⟩, trivial⟩
   ·rintro v21 H
    replace H : internal_strconv_ParseInt_J2 v3 v14 r15 v21 = some r := H
    unfold internal_strconv_ParseInt_J2 at H
    refine awp_cond _ rfl (fun h22 => ?_) (fun h22 => ?_)
    ·replace H := ift h22 H
     refine awp_seq ?_
     refine awp_plain hN rfl ?_
     refine qd rfl ?_
     refine qe rfl ?_
     refine qe rfl ?_
     refine awp_ret ?_
     cases H
     exact ⟨trivial, .inl rfl, .inl rfl, trivial⟩
    ·replace H := iff_ h22 H
     refine awp_skip ?_
     refine awp_joinE (ι := Int) (fun i => [(2, .dat (vint i)), (8, .dat (vbool v14)), (9, .dat (vval (.int .u64 r15.1)))]) (fun i => []) (fun i => internal_strconv_ParseInt_J3 v14 r15 i = some r) (fun i => rfl) ?_ ?_
     ·skip
      refine awp_seq ?_
      refine awp_plain hN rfl ?_
      refine qd rfl ?_
      refine seq_run0 (stp_eql rfl rfl) ?_
      refine awp_cond _ rfl (fun h23 => ?_) (fun h23 => ?_)
      ·replace H := ift h23 H
       refine awp_plain hN rfl ?_
       refine qe rfl ?_
       exact ⟨64, H, ⟨rfl, rfl, rfl, trivial⟩, trivial⟩
      ·replace H := iff_ h23 H
       refine awp_skip ?_
       exact ⟨v3, H, ⟨rfl, rfl, rfl, trivial⟩, trivial⟩
     ·rintro v24 H
      replace H : internal_strconv_ParseInt_J3 v14 r15 v24 = some r := H
      unfold internal_strconv_ParseInt_J3 at H
      refine awp_seq ?_
      refine awp_plain hN rfl ?_
      refine qd rfl ?_
      refine seq_run0 (stp_wrap _ rfl rfl (.inr (.inl ⟨rfl, rfl⟩))) ?_
      refine seq_run0 (stp_conv tyU3 tyU133 rfl) ?_
      obtain ⟨h25, H⟩ := gif H
      refine seq_run0 (stp_dat (stp_shl rfl rfl h25) rfl) ?_
      refine qe rfl ?_
      refine awp_seq ?_
      refine awp_seq ?_
      refine awp_plain hN rfl ?_
      refine qd rfl ?_
      refine seq_run0 (stp_not rfl) ?_
      refine qd rfl ?_
      refine seq_aT rfl rfl (fun hc => stp_move (.dat _) rfl) ?_
      refine seq_aT rfl rfl (fun hc => stp_move (.dat _) rfl) ?_
      refine seq_aT rfl rfl (fun hc => stp_geq (cnd (c := (!v14)) hc) (cnd (c := (!v14)) hc)) ?_
      refine seq_run0 (stp_pick_and rfl (fun hb => (cnd (c := (!v14)) hb)) rfl) ?_
      refine awp_cond _ rfl (fun h26 => ?_) (fun h26 => ?_)
      ·replace H := ift h26 H
       refine awp_seq ?_
       refine awp_plain hN rfl ?_
       refine qd rfl ?_
       refine seq_run0 (stp_wrap _ rfl rfl (.inr (.inl ⟨rfl, rfl⟩))) ?_
       refine seq_run0 (stp_conv tyU139 tyU2 rfl) ?_
       refine seq_run0 (stp_dat (u' := verr 1) (stp_mkErr (show Tryz.prog.underlying 147 = some (.int .i64) from by kernel_rfl) rfl) rfl) ?_
       refine qe rfl ?_
       refine qe rfl ?_
       refine awp_ret ?_
       cases H
       exact ⟨trivial, .inl rfl, .inl rfl, trivial⟩
      ·replace H := iff_ h26 H
       refine awp_skip ?_
       refine awp_seq ?_
       refine awp_seq ?_
       refine awp_plain hN rfl ?_
       refine qd rfl ?_
       refine qd rfl ?_
       refine seq_aT rfl rfl (fun hc => stp_move (.dat _) rfl) ?_
       refine seq_aT rfl rfl (fun hc => stp_move (.dat _) rfl) ?_
       refine seq_aT rfl rfl (fun hc => stp_gtr (cnd (c := v14) hc) (cnd (c := v14) hc)) ?_
       refine seq_run0 (stp_pick_and rfl (fun hb => (cnd (c := v14) hb)) rfl) ?_
       refine awp_cond _ rfl (fun h27 => ?_) (fun h27 => ?_)
       ·replace H := ift h27 H
        refine awp_seq ?_
        refine awp_plain hN rfl ?_
        refine qd rfl ?_
        refine seq_run0 (stp_conv tyU139 tyU2 rfl) ?_
        obtain ⟨h28, H⟩ := gif H
        refine seq_run0 (stp_neg rfl h28) ?_
        refine seq_run0 (stp_dat (u' := verr 1) (stp_mkErr (show Tryz.prog.underlying 147 = some (.int .i64) from by kernel_rfl) rfl) rfl) ?_
        refine qe rfl ?_
        refine qe rfl ?_
        refine awp_ret ?_
        cases H
        exact ⟨trivial, .inl rfl, .inl rfl, trivial⟩
       ·replace H := iff_ h27 H
        refine awp_skip ?_
        refine awp_seq ?_
        refine awp_plain hN rfl ?_
        refine qd rfl ?_
        refine seq_run0 (stp_conv tyU139 tyU2 rfl) ?_
        refine qe rfl ?_
        refine awp_joinE (ι := Int) (fun i => [(11, .dat (vint i))]) (fun i => []) (fun i => internal_strconv_ParseInt_J4 i = some r) (fun i => rfl) ?_ ?_
        ·skip
         refine awp_seq ?_
         refine awp_plain hN rfl ?_
         refine qd rfl ?_
         refine awp_cond _ rfl (fun h29 => ?_) (fun h29 => ?_)
         ·replace H := ift h29 H
          refine awp_plain hN rfl ?_
          refine qd rfl ?_
          obtain ⟨h30, H⟩ := gif H
          refine seq_run0 (stp_neg rfl h30) ?_
          refine qe rfl ?_
          exact ⟨(-(IntKind.wrap .i64 r15.1)), H, ⟨rfl, trivial⟩, trivial⟩
         ·replace H := iff_ h29 H
          refine awp_skip ?_
          exact ⟨IntKind.wrap .i64 r15.1, H, ⟨rfl, trivial⟩, trivial⟩
        ·rintro v31 H
         replace H : internal_strconv_ParseInt_J4 v31 = some r := H
         unfold internal_strconv_ParseInt_J4 at H
         refine awp_seq ?_
         refine awp_plain hN rfl ?_
         refine qd rfl ?_
         refine qe rfl ?_
         refine qe rfl ?_
         refine awp_ret ?_
         cases H
         exact ⟨trivial, .inl rfl, .inl rfl, trivial⟩
theorem k_internal_strconv_Atoi (v1 : Bs) (r : (Int × Int)) (H : m_internal_strconv_Atoi v1 = some r) : Fn Tryz.prog 95 [vstr v1] (resOf [vint r.1, verr r.2]) := by
 refine ⟨by kernel_rfl, pure_of (us := [vint r.1, verr r.2]) Tryz.func95 rfl rfl rfl rfl fun X hN => ?_⟩
 unfold m_internal_strconv_Atoi at H
 refine awp_seq ?_
 refine awp_plain hN rfl ?_
 refine qe rfl ?_
 refine qe rfl ?_
 refine awp_seq ?_
 refine awp_plain hN rfl ?_
 refine qd rfl ?_
 refine seq_run0 (stp_len_str tyU9 rfl) ?_
 refine qe rfl ?_
 refine awp_seq ?_
 refine awp_seq ?_
 refine awp_plain hN rfl ?_
 refine qd rfl ?_
 refine seq_aT (s := .dat (vint (v1.length : Int))) rfl rfl (fun hc => stp_move (.dat _) rfl) ?_
 refine seq_aT (s := .dat (vbool (decide (0 < (v1.length : Int))))) rfl rfl (fun hc => stp_lss rfl (cnd (c := false) (s := .dat (vint (v1.length : Int))) hc)) ?_
 refine seq_aT (s := .dat (vbool (decide (0 < (v1.length : Int))))) rfl rfl (fun hc => stp_move (.dat _) (cnd (c := false) (s := .dat (vbool (decide (0 < (v1.length : Int))))) hc)) ?_
 refine seq_bT (s := .dat (vint (v1.length : Int))) (c := false) (b := decide (0 < (v1.length : Int))) rfl rfl (fun hc => stp_move (.dat _) rfl) ?_
 refine seq_bT (s := .dat (vbool (decide ((v1.length : Int) < 10)))) (c := false) (b := decide (0 < (v1.length : Int))) rfl rfl (fun hc => stp_lss (cnd (c := (false && (decide (0 < (v1.length : Int))))) (s := .dat (vint (v1.length : Int))) hc) rfl) ?_
 refine seq_aT (s := .dat (vbool ((decide (0 < (v1.length : Int))) && (decide ((v1.length : Int) < 10))))) rfl rfl (fun hc => stp_pick_and (cnd (c := false) (s := .dat (vbool (decide (0 < (v1.length : Int))))) hc) (fun hb => (cnd (c := (false && (decide (0 < (v1.length : Int))))) (s := .dat (vbool (decide ((v1.length : Int) < 10)))) (andI hc hb))) rfl) ?_
 refine seq_run0 (stp_pick_and rfl (fun hb => (cnd (c := false) (s := .dat (vbool ((decide (0 < (v1.length : Int))) && (decide ((v1.length : Int) < 10))))) hb)) rfl) ?_
 refine qd rfl ?_
 refine seq_aF (s := .dat (vbool true)) rfl rfl (fun hc => stp_move (.dat _) rfl) ?_
 refine seq_bT (s := .dat (vint (v1.length : Int))) (c := (!(false && ((decide (0 < (v1.length : Int))) && (decide ((v1.length : Int) < 10)))))) (b := true) rfl rfl (fun hc => stp_move (.dat _) rfl) ?_
 refine seq_bT (s := .dat (vbool (decide (0 < (v1.length : Int))))) (c := (!(false && ((decide (0 < (v1.length : Int))) && (decide ((v1.length : Int) < 10)))))) (b := true) rfl rfl (fun hc => stp_lss rfl (cnd (c := ((!(false && ((decide (0 < (v1.length : Int))) && (decide ((v1.length : Int) < 10))))) && true)) (s := .dat (vint (v1.length : Int))) hc)) ?_
 refine seq_bT (s := .dat (vbool (decide (0 < (v1.length : Int))))) (c := (!(false && ((decide (0 < (v1.length : Int))) && (decide ((v1.length : Int) < 10)))))) (b := true) rfl rfl (fun hc => stp_move (.dat _) (cnd (c := ((!(false && ((decide (0 < (v1.length : Int))) && (decide ((v1.length : Int) < 10))))) && true)) (s := .dat (vbool (decide (0 < (v1.length : Int))))) hc)) ?_
 refine seq_bT (s := .dat (vint (v1.length : Int))) (c := ((!(false && ((decide (0 < (v1.length : Int))) && (decide ((v1.length : Int) < 10))))) && true)) (b := decide (0 < (v1.length : Int))) rfl rfl (fun hc => stp_move (.dat _) rfl) ?_
 refine seq_bT (s := .dat (vbool (decide ((v1.length : Int) < 19)))) (c := ((!(false && ((decide (0 < (v1.length : Int))) && (decide ((v1.length : Int) < 10))))) && true)) (b := decide (0 < (v1.length : Int))) rfl rfl (fun hc => stp_lss (cnd (c := (((!(false && ((decide (0 < (v1.length : Int))) && (decide ((v1.length : Int) < 10))))) && true) && (decide (0 < (v1.length : Int))))) (s := .dat (vint (v1.length : Int))) hc) rfl) ?_
 refine seq_bT (s := .dat (vbool ((decide (0 < (v1.length : Int))) && (decide ((v1.length : Int) < 19))))) (c := (!(false && ((decide (0 < (v1.length : Int))) && (decide ((v1.length : Int) < 10)))))) (b := true) rfl rfl (fun hc => stp_pick_and (cnd (c := ((!(false && ((decide (0 < (v1.length : Int))) && (decide ((v1.length : Int) < 10))))) && true)) (s := .dat (vbool (decide (0 < (v1.length : Int))))) hc) (fun hb => (cnd (c := (((!(false && ((decide (0 < (v1.length : Int))) && (decide ((v1.length : Int) < 10))))) && true) && (decide (0 < (v1.length : Int))))) (s := .dat (vbool (decide ((v1.length : Int) < 19)))) (andI hc hb))) rfl) ?_
 refine seq_aF (s := .dat (vbool (true && ((decide (0 < (v1.length : Int))) && (decide ((v1.length : Int) < 19)))))) rfl rfl (fun hc => stp_pick_and (cnd (c := (!(false && ((decide (0 < (v1.length : Int))) && (decide ((v1.length : Int) < 10)))))) (s := .dat (vbool true)) hc) (fun hb => (cnd (c := ((!(false && ((decide (0 < (v1.length : Int))) && (decide ((v1.length : Int) < 10))))) && true)) (s := .dat (vbool ((decide (0 < (v1.length : Int))) && (decide ((v1.length : Int) < 19))))) (andI hc hb))) rfl) ?_
 refine seq_run0 (stp_pick_or rfl rfl (fun hb => (cnd (c := (!(false && ((decide (0 < (v1.length : Int))) && (decide ((v1.length : Int) < 10)))))) (s := .dat (vbool (true && ((decide (0 < (v1.length : Int))) && (decide ((v1.length : Int) < 19)))))) (notI hb)))) ?_
 refine awp_cond _ rfl (fun h2 => ?_) (fun h2 => ?_)
 ·replace H := ift h2 H
  refine awp_seq ?_
  refine awp_plain hN rfl ?_
  refine qd rfl ?_
  refine qe rfl ?_
  refine awp_joinE (ι := Bs) (fun i => [(0, .dat (vstr i)), (5, .dat (vstr v1))]) (fun i => []) (fun i => internal_strconv_Atoi_J1 v1 i = some r) (fun i => rfl) ?_ ?_
  ·skip
   refine awp_joinE (ι := Bool) (fun i => [(0, .dat (vstr v1)), (5, .dat (vstr v1)), (39, .dat (vbool i))]) (fun i => []) (fun i => internal_strconv_Atoi_J2 v1 i = some r) (fun i => rfl) ?_ ?_
   ·skip
    refine awp_plain hN rfl ?_
    refine qd rfl ?_
    obtain ⟨x3, h4, H⟩ := bnd H
    refine seq_run0 (t_byte tyU9 rfl rfl h4) ?_
    refine seq_run0 (stp_eql rfl rfl) ?_
    refine qd rfl ?_
    refine seq_split (j := 3) rfl rfl (fun h5 => ?_) (fun h5 => ?_) rfl
    ·have h6 := un3 h5
     replace H := iff_ h6 H
     refine seq_g0 rfl rfl h5 (stp_move (.dat _) rfl) ?_
     refine seq_g0 rfl rfl h5 (t_byte tyU9 rfl rfl h4) ?_
     refine seq_g0 rfl rfl h5 (stp_eql rfl rfl) ?_
     refine seq_run0 (stp_pick_f rfl (bFF h6) rfl) ?_
     exact ⟨decide ((x3.toNat : Int) = 43), H, ⟨rfl, rfl, rfl, trivial⟩, trivial⟩
    ·have h7 := un4 h5
     replace H := ift h7 H
     refine seq_skip rfl rfl h5 ?_
     refine seq_skip rfl rfl h5 ?_
     refine seq_skip rfl rfl h5 ?_
     refine seq_run0 (stp_pick_t rfl (bTT h7) rfl) ?_
     exact ⟨true, H, ⟨rfl, rfl, rfl, trivial⟩, trivial⟩
   ·rintro v8 H
    replace H : internal_strconv_Atoi_J2 v1 v8 = some r := H
    unfold internal_strconv_Atoi_J2 at H
    refine awp_cond _ rfl (fun h9 => ?_) (fun h9 => ?_)
    ·replace H := ift h9 H
     refine awp_seq ?_
     refine awp_plain hN rfl ?_
     refine qd rfl ?_
     obtain ⟨l10, h11, H⟩ := bnd H
     refine seq_run0 (t_subS tyU9 rfl rfl rfl h11) ?_
     refine qe rfl ?_
     refine awp_seq ?_
     refine awp_plain hN rfl ?_
     refine qd rfl ?_
     refine seq_run0 (stp_len_str tyU9 rfl) ?_
     refine seq_run0 (stp_lss rfl rfl) ?_
     refine awp_cond _ rfl (fun h12 => ?_) (fun h12 => ?_)
     ·replace H := ift h12 H
      refine awp_seq ?_
      refine awp_plain hN rfl ?_
      refine seq_run0 (stp_dat (u' := verr 2) (stp_mkErr (show Tryz.prog.underlying 147 = some (.int .i64) from by kernel_rfl) rfl) rfl) ?_
      refine qe rfl ?_
      refine qe rfl ?_
      refine awp_ret ?_
      cases H
      exact ⟨trivial, .inl rfl, .inl rfl, trivial⟩
     ·replace H := iff_ h12 H
      refine awp_skip ?_
      exact ⟨l10, H, ⟨rfl, rfl, trivial⟩, trivial⟩
    ·replace H := iff_ h9 H
     refine awp_skip ?_
     exact ⟨v1, H, ⟨rfl, rfl, trivial⟩, trivial⟩
  ·rintro v13 H
   replace H : internal_strconv_Atoi_J1 v1 v13 = some r := H
   unfold internal_strconv_Atoi_J1 at H
   refine awp_seq ?_
   refine awp_plain hN rfl ?_
   refine qe rfl ?_
   refine awp_seq ?_
   refine awp_seq ?_
   refine awp_plain hN rfl ?_
   refine qd rfl ?_
   refine seq_run0 (stp_convS2B (C := C_uint8) tyU9 tyU76 tyU5 (fun _ => rfl) rfl) ?_
   refine seq_run0 (t_len tyU76 rfl) ?_
   refine qd rfl ?_
   refine awp_block ?_
   obtain ⟨h17, H⟩ := gif H
   refine awp_forL (fun (k15 : Nat) (s : Int) => [(5, .dat (vstr v1)), (6, .dat (vint s)), (47, .dat (vlst (List.map C_uint8 (numsB v13)))), (48, .dat (vint ((numsB v13).length : Int))), (49, .dat (vint (k15 : Int)))]) (fun (k15 : Nat) (s : Int) => []) 0 H ⟨rfl, rfl, rfl, rfl, rfl, trivial⟩ trivial (fun _ _ => rfl) ?_ ?_
   ·rintro v14 H
    replace H : internal_strconv_Atoi_E3 v1 v14 = some r := H
    unfold internal_strconv_Atoi_E3 at H
    refine awp_seq ?_
    refine awp_plain hN rfl ?_
    refine seq_run0 (stp_lss rfl rfl) ?_
    refine awp_seq ?_
    refine awp_cond _ rfl (fun h => (lt_t h).elim) (fun h => ?_)
    refine awp_exit ?_
    refine awp_joinE (ι := Int) (fun i => [(6, .dat (vint i))]) (fun i => []) (fun i => internal_strconv_Atoi_J4 i = some r) (fun i => rfl) ?_ ?_
    ·skip
     refine awp_seq ?_
     refine awp_plain hN rfl ?_
     refine qd rfl ?_
     obtain ⟨x19, h20, H⟩ := bnd H
     refine seq_run0 (t_byte tyU9 rfl rfl h20) ?_
     refine seq_run0 (stp_eql rfl rfl) ?_
     refine awp_cond _ rfl (fun h21 => ?_) (fun h21 => ?_)
     ·replace H := ift h21 H
      refine awp_plain hN rfl ?_
      refine qd rfl ?_
      obtain ⟨h22, H⟩ := gif H
      refine seq_run0 (stp_neg rfl h22) ?_
      refine qe rfl ?_
      exact ⟨(-v14), H, ⟨rfl, trivial⟩, trivial⟩
     ·replace H := iff_ h21 H
      refine awp_skip ?_
      exact ⟨v14, H, ⟨rfl, trivial⟩, trivial⟩
    ·rintro v23 H
     replace H : internal_strconv_Atoi_J4 v23 = some r := H
     unfold internal_strconv_Atoi_J4 at H
     refine awp_seq ?_
     refine awp_plain hN rfl ?_
     refine qd rfl ?_
     refine qe rfl ?_
     refine qe rfl ?_
     refine awp_ret ?_
     cases H
     exact ⟨trivial, .inl rfl, .inl rfl, trivial⟩
   ·rintro k15 x18 v14 q16 h24 h25 H hq16
    replace H : internal_strconv_Atoi_L3 k15 x18 v14 = some q16 := H
    unfold internal_strconv_Atoi_L3 at H
    refine awp_seq ?_
    refine awp_plain hN rfl ?_
    refine seq_run0 (stp_lss rfl rfl) ?_
    refine awp_seq ?_
    refine awp_cond _ rfl (fun h => ?_) (fun h => (lt_f h24 h).elim)
    refine awp_skip ?_
    refine awp_seq ?_
    refine awp_block ?_
    refine awp_seq ?_
    refine awp_plain hN rfl ?_
    refine seq_run0 (t_idx tyE76 (fun _ => rfl) rfl rfl h25) ?_
    refine seq_run0 (stp_loadE1 tyS5 rfl (map_at h25) rfl) ?_
    refine qe rfl ?_
    refine awp_seq ?_
    refine awp_plain hN rfl ?_
    refine qd rfl ?_
    refine seq_run0 (stp_wrap _ rfl rfl (.inr (.inl ⟨rfl, rfl⟩))) ?_
    refine qe rfl ?_
    refine awp_seq ?_
    refine awp_seq ?_
    refine awp_plain hN rfl ?_
    refine qd rfl ?_
    refine seq_run0 (stp_gtr rfl rfl) ?_
    refine awp_cond _ rfl (fun h26 => ?_) (fun h26 => ?_)
    ·replace H := ift h26 H
     refine awp_seq ?_
     refine awp_plain hN rfl ?_
     refine seq_run0 (stp_dat (u' := verr 2) (stp_mkErr (show Tryz.prog.underlying 147 = some (.int .i64) from by kernel_rfl) rfl) rfl) ?_
     refine qe rfl ?_
     refine qe rfl ?_
     refine awp_ret ?_
     replace H := retl H hq16
     cases H
     exact ⟨trivial, .inl rfl, .inl rfl, trivial⟩
    ·replace H := iff_ h26 H
     refine awp_skip ?_
     refine awp_plain hN rfl ?_
     refine qd rfl ?_
     refine seq_run0 (stp_wrap _ rfl rfl (.inr (.inr ⟨rfl, rfl⟩))) ?_
     refine qd rfl ?_
     refine seq_run0 (stp_conv tyU5 tyU3 rfl) ?_
     refine seq_run0 (stp_wrap _ rfl rfl (.inl ⟨rfl, rfl⟩)) ?_
     refine qe rfl ?_
     refine awp_plain hN rfl ?_
     refine seq_run0 (stp_add rfl rfl (by omega)) ?_
     refine qd rfl ?_
     exact ⟨_, backl H, ⟨rfl, rfl, rfl, rfl, rfl, trivial⟩, trivial⟩
 ·replace H := iff_ h2 H
  refine awp_skip ?_
  refine awp_seq ?_
  refine awp_plain hN rfl ?_
  refine qd rfl ?_
  obtain ⟨r27, h28, H⟩ := bnd H
  refine seq_run0 (stp_call (k_internal_strconv_ParseInt v1 10 0 r27 h28) ⟨.inl rfl, .inl rfl, .inl rfl, trivial⟩) ?_
  refine qd rfl ?_
  refine seq_run0 (stp_ext rfl rfl) ?_
  refine seq_run0 (stp_ext rfl rfl) ?_
  refine qe rfl ?_
  refine qe rfl ?_
  refine awp_seq ?_
  refine awp_plain hN rfl ?_
  refine qd rfl ?_
  refine qd rfl ?_
  refine qe rfl ?_
  refine qe rfl ?_
  refine awp_ret ?_
  cases H
  exact ⟨trivial, .inl rfl, .inl rfl, trivial⟩
theorem k_strconv_toError (fn s : Bs) (base bits e r : Int) (H : m_strconv_toError fn s base bits e = some r) : Fn Tryz.prog 96 [vstr fn, vstr s, vint base, vint bits, verr e] (resOf [verr r]) := by
 obtain ⟨⟨h1, h2, h3⟩, h4⟩ := gif H
 cases h4
 refine fn_of_callsG (by kernel_rfl) fun M w vs hM h => ?_
 rcases h3 with rfl | rfl
 ·have hv := Ts_vals (us := [.string ⟨fn.toArray⟩, .string ⟨s.toArray⟩, .int .i64 base, .int .i64 bits, .iface 147 (.int .i64 2)]) h
  subst hv
  obtain ⟨tp, p, hc⟩ := ErrSyntax_cell hM
  refine (Tryz.strconv_toError_syntax ⟨fn.toArray⟩ ⟨s.toArray⟩ base bits (.iface tp p) w (by simp [ByteArray.size]; omega) hc (.inr ⟨tp, p, rfl⟩)).mono ?_
  rintro e w' ⟨N, rfl, _, _, hb⟩
  exact ⟨_, rfl, ⟨_, _, rfl⟩, Kp.of_below hb⟩
 ·have hv := Ts_vals (us := [.string ⟨fn.toArray⟩, .string ⟨s.toArray⟩, .int .i64 base, .int .i64 bits, .iface 147 (.int .i64 1)]) h
  subst hv
  obtain ⟨tp, p, hc⟩ := ErrRange_cell hM
  refine (Tryz.strconv_toError_range ⟨fn.toArray⟩ ⟨s.toArray⟩ base bits (.iface tp p) w (by simp [ByteArray.size]; omega) hc (.inr ⟨tp, p, rfl⟩)).mono ?_
  rintro e w' ⟨N, rfl, _, _, hb⟩
  exact ⟨_, rfl, ⟨_, _, rfl⟩, Kp.of_below hb⟩
theorem k_strconv_Atoi (s1 : Bs) (r : (Int × Int)) (H : m_strconv_Atoi s1 = some r) : Fn Tryz.prog 73 [vstr s1] (resOf [vint r.1, verr r.2]) := by
 refine ⟨by kernel_rfl, pure_of (us := [vint r.1, verr r.2]) Tryz.func73 rfl rfl rfl rfl fun X hN => ?_⟩
 unfold m_strconv_Atoi at H
 refine awp_seq ?_
 refine awp_plain hN rfl ?_
 refine qe rfl ?_
 refine qe rfl ?_
 refine awp_seq ?_
 refine awp_plain hN rfl ?_
 refine qd rfl ?_
 obtain ⟨r2, h3, H⟩ := bnd H
 refine seq_run0 (stp_call (k_internal_strconv_Atoi s1 r2 h3) ⟨.inl rfl, trivial⟩) ?_
 refine qd rfl ?_
 refine seq_run0 (stp_ext rfl rfl) ?_
 refine seq_run0 (stp_ext rfl rfl) ?_
 refine qe rfl ?_
 refine qe rfl ?_
 refine awp_seq ?_
 refine awp_seq ?_
 refine awp_plain hN rfl ?_
 refine qd rfl ?_
 refine seq_run0 (stp_errneq (n := r2.2) (show Tryz.prog.underlying 80 = some (.interface (Tryz.prog.methodsAt 80)) from by kernel_rfl) rfl) ?_
 refine awp_cond _ rfl (fun h4 => ?_) (fun h4 => ?_)
 ·replace H := ift h4 H
  refine awp_seq ?_
  refine awp_plain hN rfl ?_
  refine qd rfl ?_
  refine qd rfl ?_
  refine qd rfl ?_
  obtain ⟨r5, h6, H⟩ := bnd H
  refine seq_run0 (stp_call (k_strconv_toError [65, 116, 111, 105] s1 0 0 r2.2 r5 h6) ⟨.inl rfl, .inl rfl, .inl rfl, .inl rfl, .inl rfl, trivial⟩) ?_
  refine qe rfl ?_
  refine qe rfl ?_
  refine awp_ret ?_
  cases H
  exact ⟨trivial, .inl rfl, .inl rfl, trivial⟩
 ·replace H := iff_ h4 H
  refine awp_skip ?_
  refine awp_seq ?_
  refine awp_plain hN rfl ?_
  refine qd rfl ?_
  refine qe rfl ?_
  refine qe rfl ?_
  refine awp_ret ?_
  cases H
  exact ⟨trivial, .inl rfl, .inl rfl, trivial⟩
theorem k_kit_Number (s1 : Bs) (most2 : Int) (r : (Int × Bool)) (H : m_kit_Number s1 most2 = some r) : Fn Tryz.prog 69 [vstr s1, vint most2] (resOf [vint r.1, vbool r.2]) := by
 refine ⟨by kernel_rfl, pure_of (us := [vint r.1, vbool r.2]) Tryz.func69 rfl rfl rfl rfl fun X hN => ?_⟩
 unfold m_kit_Number at H
 refine awp_seq ?_
 refine awp_plain hN rfl ?_
 refine qe rfl ?_
 refine qe rfl ?_
 refine awp_seq ?_
 refine awp_plain hN rfl ?_
 refine qd rfl ?_
 obtain ⟨r3, h4, H⟩ := bnd H
 refine seq_run0 (stp_call (k_strings_TrimPrefix s1 [45] r3 h4) ⟨.inl rfl, .inl rfl, trivial⟩) ?_
 refine qe rfl ?_
 refine awp_seq ?_
 refine awp_joinE (ι := Bool) (fun i => [(0, .dat (vstr s1)), (6, .dat (vstr r3)), (28, .dat (vbool i))]) (fun i => []) (fun i => kit_Number_J1 s1 r3 i = some r) (fun i => rfl) ?_ ?_
 ·skip
  refine awp_plain hN rfl ?_
  refine qd rfl ?_
  refine seq_run0 (stp_seql rfl rfl) ?_
  refine qd rfl ?_
  refine seq_split (j := 2) rfl rfl (fun h5 => ?_) (fun h5 => ?_) rfl
  ·have h6 := un3 h5
   replace H := iff_ h6 H
   refine seq_g0 rfl rfl h5 (stp_move (.dat _) rfl) ?_
   refine seq_g0 rfl rfl h5 (stp_len_str tyU9 rfl) ?_
   refine seq_g0 rfl rfl h5 (stp_move (.dat _) rfl) ?_
   refine seq_g0 rfl rfl h5 (stp_gtr rfl rfl) ?_
   refine seq_run0 (stp_pick_f rfl (bFF h6) rfl) ?_
   refine qd rfl ?_
   refine seq_split (j := 8) rfl rfl (fun h7 => ?_) (fun h7 => ?_) rfl
   ·have h8 := un3 h7
    replace H := iff_ h8 H
    refine seq_g0 rfl rfl h7 (stp_move (.dat _) rfl) ?_
    obtain ⟨x9, h10, H⟩ := bnd H
    refine seq_g0 rfl rfl h7 (t_byte tyU9 rfl rfl h10) ?_
    refine seq_g0 rfl rfl h7 (stp_eql rfl rfl) ?_
    refine seq_g0 rfl rfl h7 (stp_move (.dat _) rfl) ?_
    refine seq_split (j := 12) rfl rfl (fun h11 => ?_) (fun h11 => ?_) rfl
    ·have h12 := un1 h11
     replace H := ift h12 H
     refine seq_g0 rfl rfl h11 (stp_move (.dat _) rfl) ?_
     refine seq_g0 rfl rfl h11 (stp_sneq rfl rfl) ?_
     refine seq_g0 rfl rfl h7 (stp_pick_t rfl (bTT h12) rfl) ?_
     refine seq_run0 (stp_pick_f rfl (bFF h8) rfl) ?_
     exact ⟨decide (s1 ≠ [48]), H, ⟨rfl, rfl, rfl, trivial⟩, trivial⟩
    ·have h13 := un2 h11
     replace H := iff_ h13 H
     refine seq_skip rfl rfl h11 ?_
     refine seq_skip rfl rfl h11 ?_
     refine seq_g0 rfl rfl h7 (stp_pick_f rfl (bFF h13) rfl) ?_
     refine seq_run0 (stp_pick_f rfl (bFF h8) rfl) ?_
     exact ⟨false, H, ⟨rfl, rfl, rfl, trivial⟩, trivial⟩
   ·have h14 := un4 h7
    replace H := ift h14 H
    refine seq_skip rfl rfl h7 ?_
    refine seq_skip rfl rfl h7 ?_
    refine seq_skip rfl rfl h7 ?_
    refine seq_skip rfl rfl h7 ?_
    refine seq_skipU rfl rfl ?_
    refine seq_skipU rfl rfl ?_
    refine seq_skip rfl rfl h7 ?_
    refine seq_run0 (stp_pick_t rfl (bTT h14) rfl) ?_
    exact ⟨true, H, ⟨rfl, rfl, rfl, trivial⟩, trivial⟩
  ·have h15 := un4 h5
   replace H := ift h15 H
   refine seq_skip rfl rfl h5 ?_
   refine seq_skip rfl rfl h5 ?_
   refine seq_skip rfl rfl h5 ?_
   refine seq_skip rfl rfl h5 ?_
   refine seq_run0 (stp_pick_t rfl (bTT h15) rfl) ?_
   refine qd rfl ?_
   refine seq_skip rfl rfl rfl ?_
   refine seq_skip rfl rfl rfl ?_
   refine seq_skip rfl rfl rfl ?_
   refine seq_skip rfl rfl rfl ?_
   refine seq_skipU rfl rfl ?_
   refine seq_skipU rfl rfl ?_
   refine seq_skip rfl rfl rfl ?_
   refine seq_run0 (stp_pick_t rfl rfl rfl) ?_
   exact ⟨true, H, ⟨rfl, rfl, rfl, trivial⟩, trivial⟩
 ·rintro v16 H
  replace H : kit_Number_J1 s1 r3 v16 = some r := H
  unfold kit_Number_J1 at H
  refine awp_cond _ rfl (fun h17 => ?_) (fun h17 => ?_)
  ·replace H := ift h17 H
   refine awp_seq ?_
   refine awp_plain hN rfl ?_
   refine qe rfl ?_
   refine qe rfl ?_
   refine awp_ret ?_
   cases H
   exact ⟨trivial, .inl rfl, .inl rfl, trivial⟩
  ·replace H := iff_ h17 H
   refine awp_skip ?_
   refine awp_seq ?_
   refine awp_seq ?_
   refine awp_plain hN rfl ?_
   refine qe rfl ?_
   refine awp_block ?_
   obtain ⟨h20, H⟩ := gif H
   refine awp_forL (fun (i18 : Nat) (s : Unit) => [(0, .dat (vstr s1)), (6, .dat (vstr r3)), (7, .dat (vint (i18 : Int)))]) (fun (i18 : Nat) (s : Unit) => []) () H ⟨rfl, rfl, rfl, trivial⟩ trivial (fun _ _ => rfl) ?_ ?_
   ·rintro ⟨⟩ H
    replace H : kit_Number_E2 s1 = some r := H
    unfold kit_Number_E2 at H
    refine awp_seq ?_
    refine awp_seq ?_
    refine awp_plain hN rfl ?_
    refine qd rfl ?_
    refine qd rfl ?_
    refine seq_run0 (stp_len_str tyU9 rfl) ?_
    refine seq_run0 (stp_lss rfl rfl) ?_
    refine awp_cond _ rfl (fun h => (lt_t h).elim) (fun h => ?_)
    refine awp_exit ?_
    refine awp_seq ?_
    refine awp_plain hN rfl ?_
    refine qd rfl ?_
    obtain ⟨r22, h23, H⟩ := bnd H
    refine seq_run0 (stp_call (k_strconv_Atoi s1 r22 h23) ⟨.inl rfl, trivial⟩) ?_
    refine qd rfl ?_
    refine seq_run0 (stp_ext rfl rfl) ?_
    refine seq_run0 (stp_ext rfl rfl) ?_
    refine qe rfl ?_
    refine qe rfl ?_
    refine awp_seq ?_
    refine awp_draw mixed hN rfl rfl ?_
    refine qd rfl ?_
    refine qd rfl ?_
    refine seq_run0 (stp_erreql (n := r22.2) (show Tryz.prog.underlying 80 = some (.interface (Tryz.prog.methodsAt 80)) from by kernel_rfl) rfl) ?_
    refine qe rfl ?_
    refine qe rfl ?_
    refine ⟨rfl, ?_⟩
    refine awp_ret ?_
    cases H
    exact ⟨trivial, .inl rfl, .inl rfl, trivial⟩
   ·rintro i18 x21 ⟨⟩ q19 h24 h25 H hq19
    replace H : kit_Number_L2 i18 x21 = some q19 := H
    unfold kit_Number_L2 at H
    refine awp_seq ?_
    refine awp_seq ?_
    refine awp_plain hN rfl ?_
    refine qd rfl ?_
    refine qd rfl ?_
    refine seq_run0 (stp_len_str tyU9 rfl) ?_
    refine seq_run0 (stp_lss rfl rfl) ?_
    refine awp_cond _ rfl (fun h => ?_) (fun h => (lt_f h24 h).elim)
    refine awp_skip ?_
    refine awp_seq ?_
    refine awp_block ?_
    refine awp_joinE (ι := Bool) (fun i => [(0, .dat (vstr s1)), (6, .dat (vstr r3)), (7, .dat (vint (i18 : Int))), (44, .dat (vbool i))]) (fun i => []) (fun i => kit_Number_J3 i = some q19) (fun i => rfl) ?_ ?_
    ·skip
     refine awp_plain hN rfl ?_
     refine qd rfl ?_
     refine qd rfl ?_
     refine seq_run0 (t_byte tyU9 rfl rfl h25) ?_
     refine seq_run0 (stp_lss rfl rfl) ?_
     refine qd rfl ?_
     refine seq_split (j := 4) rfl rfl (fun h26 => ?_) (fun h26 => ?_) rfl
     ·have h27 := un3 h26
      replace H := iff_ h27 H
      refine seq_g0 rfl rfl h26 (stp_move (.dat _) rfl) ?_
      refine seq_g0 rfl rfl h26 (stp_move (.dat _) rfl) ?_
      refine seq_g0 rfl rfl h26 (t_byte tyU9 rfl rfl h25) ?_
      refine seq_g0 rfl rfl h26 (stp_gtr rfl rfl) ?_
      refine seq_run0 (stp_pick_f rfl (bFF h27) rfl) ?_
      exact ⟨decide (57 < (x21.toNat : Int)), H, ⟨rfl, rfl, rfl, rfl, trivial⟩, trivial⟩
     ·have h28 := un4 h26
      replace H := ift h28 H
      refine seq_skip rfl rfl h26 ?_
      refine seq_skip rfl rfl h26 ?_
      refine seq_skip rfl rfl h26 ?_
      refine seq_skip rfl rfl h26 ?_
      refine seq_run0 (stp_pick_t rfl (bTT h28) rfl) ?_
      exact ⟨true, H, ⟨rfl, rfl, rfl, rfl, trivial⟩, trivial⟩
    ·rintro v29 H
     replace H : kit_Number_J3 v29 = some q19 := H
     unfold kit_Number_J3 at H
     refine awp_cond _ rfl (fun h30 => ?_) (fun h30 => ?_)
     ·replace H := ift h30 H
      refine awp_seq ?_
      refine awp_plain hN rfl ?_
      refine qe rfl ?_
      refine qe rfl ?_
      refine awp_ret ?_
      replace H := retl H hq19
      cases H
      exact ⟨trivial, .inl rfl, .inl rfl, trivial⟩
     ·replace H := iff_ h30 H
      refine awp_skip ?_
      refine awp_plain hN rfl ?_
      refine qd rfl ?_
      refine seq_run0 (stp_add rfl rfl (by omega)) ?_
      refine qe rfl ?_
      exact ⟨_, backl H, ⟨rfl, rfl, rfl, trivial⟩, trivial⟩
theorem k_portal_readEvent (v1 : Bs) (r : (S_api_Event × Bool)) (H : m_portal_readEvent v1 = some r) : Fn Tryz.prog 44 [vstr v1] (resOf [vagg (C_api_Event r.1), vbool r.2]) := by
 refine ⟨by kernel_rfl, pure_of (us := [vagg (C_api_Event r.1), vbool r.2]) Tryz.func44 rfl rfl rfl rfl fun X hN => ?_⟩
 unfold m_portal_readEvent at H
 refine awp_seq ?_
 refine awp_plain hN rfl ?_
 refine seq_run2 (stp_alloc 1 tyZ46 rfl) rfl ?_
 refine qe rfl ?_
 refine awp_seq ?_
 refine awp_plain hN rfl ?_
 refine qd rfl ?_
 obtain ⟨r2, h3, H⟩ := bnd H
 refine seq_run0 (stp_call (k_kit_Words v1 r2 h3) ⟨.inl rfl, trivial⟩) ?_
 refine qd rfl ?_
 refine seq_run0 (stp_ext rfl rfl) ?_
 refine seq_run0 (stp_ext rfl rfl) ?_
 refine qe rfl ?_
 refine qe rfl ?_
 refine awp_seq ?_
 refine awp_seq ?_
 refine awp_plain hN rfl ?_
 refine qd rfl ?_
 refine seq_run0 (stp_not rfl) ?_
 refine qd rfl ?_
 refine seq_aF rfl rfl (fun hc => stp_move (.dat _) rfl) ?_
 refine seq_aF rfl rfl (fun hc => t_len tyU55 (cnd (c := (!(!r2.2))) hc)) ?_
 refine seq_aF rfl rfl (fun hc => stp_lss (cnd (c := (!(!r2.2))) hc) rfl) ?_
 refine seq_run0 (stp_pick_or rfl rfl (fun hb => (cnd (c := (!(!r2.2))) (notI hb)))) ?_
 refine awp_cond _ rfl (fun h4 => ?_) (fun h4 => ?_)
 ·replace H := ift h4 H
  refine awp_seq ?_
  refine awp_plain hN rfl ?_
  refine seq_run0 (stp_dat (u' := vagg (C_api_Event (S_api_Event.mk 0 [] [] 0 []))) (stp_build [] tyZ46 tyP46 rfl trivial) rfl) ?_
  refine seq_run2 (stp_storeW tyS46 rfl rfl rfl rfl) rfl ?_
  refine qe rfl ?_
  refine awp_ret ?_
  cases H
  exact ⟨trivial, .inl ⟨_, _, _, C_api_Event (S_api_Event.mk 0 [] [] 0 []), rfl, rfl, rfl, rfl, tyS46⟩, .inl rfl, trivial⟩
 ·replace H := iff_ h4 H
  refine awp_skip ?_
  refine awp_seq ?_
  refine awp_plain hN rfl ?_
  refine qd rfl ?_
  obtain ⟨x5, h6, H⟩ := bnd H
  refine seq_run0 (t_idx tyE55 (fun _ => rfl) rfl rfl h6) ?_
  refine seq_run0 (stp_loadE1 tyS9 rfl (map_at h6) rfl) ?_
  obtain ⟨r7, h8, H⟩ := bnd H
  refine seq_run0 (stp_call (k_kit_Number x5 15 r7 h8) ⟨.inl rfl, .inl rfl, trivial⟩) ?_
  refine qd rfl ?_
  refine seq_run0 (stp_ext rfl rfl) ?_
  refine seq_run0 (stp_ext rfl rfl) ?_
  refine qe rfl ?_
  refine qe rfl ?_
  refine awp_seq ?_
  refine awp_draw mixed hN rfl rfl ?_
  refine qd rfl ?_
  refine qd rfl ?_
  obtain ⟨x9, h10, H⟩ := bnd H
  refine seq_run0 (t_idx tyE55 (fun _ => rfl) rfl rfl h10) ?_
  refine seq_run0 (stp_loadE1 tyS9 rfl (map_at h10) rfl) ?_
  refine qd rfl ?_
  obtain ⟨x11, h12, H⟩ := bnd H
  refine seq_run0 (t_idx tyE55 (fun _ => rfl) rfl rfl h12) ?_
  refine seq_run0 (stp_loadE1 tyS9 rfl (map_at h12) rfl) ?_
  obtain ⟨r13, h14, H⟩ := bnd H
  refine seq_run0 (stp_call (k_portal_kindWords  r13 h14) trivial) ?_
  refine qd rfl ?_
  obtain ⟨x15, h16, H⟩ := bnd H
  refine seq_run0 (t_idx tyE55 (fun _ => rfl) rfl rfl h16) ?_
  refine seq_run0 (stp_loadE1 tyS9 rfl (map_at h16) rfl) ?_
  obtain ⟨r17, h18, H⟩ := bnd H
  refine seq_run0 (stp_call (k_slices_Index_L_string_string_ r13 x15 r17 h18) ⟨.inl rfl, .inl rfl, trivial⟩) ?_
  refine seq_run0 (stp_dat (u' := vagg (C_api_Event (S_api_Event.mk r7.1 x9 x11 r17 []))) (stp_build [(0, [vint r7.1]), (1, [vstr x9]), (2, [vstr x11]), (3, [vint r17])] tyZ46 tyP46 rfl ⟨rfl, .inl ⟨_, rfl, rfl, rfl⟩, rfl, rfl, .inl ⟨_, rfl, rfl, rfl⟩, rfl, rfl, .inl ⟨_, rfl, rfl, rfl⟩, rfl, rfl, .inl ⟨_, rfl, rfl, rfl⟩, rfl, trivial⟩) rfl) ?_
  refine seq_run2 (stp_alloc 2 tyZ46 rfl) rfl ?_
  refine seq_run2 (stp_storeW tyS46 rfl rfl rfl rfl) rfl ?_
  refine ⟨rfl, ?_⟩
  refine awp_seq ?_
  refine awp_seq ?_
  refine awp_plain hN rfl ?_
  refine seq_run0 (stp_fldP tyF46_3 rfl) ?_
  refine seq_run1 (stp_load1 tyS3 rfl rfl) rfl ?_
  refine seq_run0 (stp_lss rfl rfl) ?_
  refine qd rfl ?_
  refine seq_aF rfl rfl (fun hc => stp_move (.dat _) rfl) ?_
  refine seq_aF rfl rfl (fun hc => stp_not (cnd (c := (!(decide (r17 < 1)))) hc)) ?_
  refine seq_run0 (stp_pick_or rfl rfl (fun hb => (cnd (c := (!(decide (r17 < 1)))) (notI hb)))) ?_
  refine awp_cond _ rfl (fun h19 => ?_) (fun h19 => ?_)
  ·replace H := ift h19 H
   refine awp_seq ?_
   refine awp_plain hN rfl ?_
   refine seq_run1 (stp_loadA tyS46 rfl rfl rfl) rfl ?_
   refine seq_run2 (stp_storeW tyS46 rfl rfl rfl rfl) rfl ?_
   refine qe rfl ?_
   refine awp_ret ?_
   cases H
   exact ⟨trivial, .inl ⟨_, _, _, C_api_Event (S_api_Event.mk r7.1 x9 x11 r17 []), rfl, rfl, rfl, rfl, tyS46⟩, .inl rfl, trivial⟩
  ·replace H := iff_ h19 H
   refine awp_skip ?_
   refine awp_seq ?_
   refine awp_seq ?_
   refine awp_plain hN rfl ?_
   refine seq_run0 (stp_fldP tyF46_3 rfl) ?_
   refine seq_run1 (stp_load1 tyS3 rfl rfl) rfl ?_
   refine seq_run0 (stp_neq rfl rfl) ?_
   refine awp_cond _ rfl (fun h20 => ?_) (fun h20 => ?_)
   ·replace H := ift h20 H
    refine awp_seq ?_
    refine awp_plain hN rfl ?_
    refine seq_run1 (stp_loadA tyS46 rfl rfl rfl) rfl ?_
    refine qd rfl ?_
    refine seq_run0 (t_len tyU55 rfl) ?_
    refine seq_run0 (stp_eql rfl rfl) ?_
    refine seq_run2 (stp_storeW tyS46 rfl rfl rfl rfl) rfl ?_
    refine qe rfl ?_
    refine awp_ret ?_
    cases H
    exact ⟨trivial, .inl ⟨_, _, _, C_api_Event (S_api_Event.mk r7.1 x9 x11 r17 []), rfl, rfl, rfl, rfl, tyS46⟩, .inl rfl, trivial⟩
   ·replace H := iff_ h20 H
    refine awp_skip ?_
    refine awp_seq ?_
    refine awp_seq ?_
    refine awp_plain hN rfl ?_
    refine qd rfl ?_
    refine seq_run0 (t_len tyU55 rfl) ?_
    refine seq_run0 (stp_neq rfl rfl) ?_
    refine awp_cond _ rfl (fun h21 => ?_) (fun h21 => ?_)
    ·replace H := ift h21 H
     refine awp_seq ?_
     refine awp_plain hN rfl ?_
     refine seq_run1 (stp_loadA tyS46 rfl rfl rfl) rfl ?_
     refine seq_run2 (stp_storeW tyS46 rfl rfl rfl rfl) rfl ?_
     refine qe rfl ?_
     refine awp_ret ?_
     cases H
     exact ⟨trivial, .inl ⟨_, _, _, C_api_Event (S_api_Event.mk r7.1 x9 x11 r17 []), rfl, rfl, rfl, rfl, tyS46⟩, .inl rfl, trivial⟩
    ·replace H := iff_ h21 H
     refine awp_skip ?_
     refine awp_seq ?_
     refine awp_plain hN rfl ?_
     refine qd rfl ?_
     obtain ⟨x22, h23, H⟩ := bnd H
     refine seq_run0 (t_idx tyE55 (fun _ => rfl) rfl rfl h23) ?_
     refine seq_run0 (stp_loadE1 tyS9 rfl (map_at h23) rfl) ?_
     refine seq_run0 (stp_fldP tyF46_4 rfl) ?_
     refine seq_run2 (stp_store1 tyS9 rfl rfl rfl rfl) rfl ?_
     refine awp_seq ?_
     refine awp_plain hN rfl ?_
     refine seq_run1 (stp_loadA tyS46 rfl rfl rfl) rfl ?_
     refine seq_run2 (stp_storeW tyS46 rfl rfl rfl rfl) rfl ?_
     refine qe rfl ?_
     refine awp_ret ?_
     cases H
     exact ⟨trivial, .inl ⟨_, _, _, C_api_Event (S_api_Event.mk r7.1 x9 x11 r17 x22), rfl, rfl, rfl, rfl, tyS46⟩, .inl rfl, trivial⟩
theorem k_portal_Read (text1 : Bs) (r : ((List S_api_Event) × Int × Int)) (H : m_portal_Read text1 = some r) : Fn Tryz.prog 12 [vstr text1] (resOf [vlst (List.map C_api_Event r.1), vint r.2.1, vint r.2.2]) := by
 refine ⟨by kernel_rfl, pure_of (us := [vlst (List.map C_api_Event r.1), vint r.2.1, vint r.2.2]) Tryz.func12 rfl rfl rfl rfl fun X hN => ?_⟩
 unfold m_portal_Read at H
 refine awp_seq ?_
 refine awp_plain hN rfl ?_
 refine qe rfl ?_
 refine qe rfl ?_
 refine qe rfl ?_
 refine awp_seq ?_
 refine awp_seq ?_
 refine awp_plain hN rfl ?_
 refine qd rfl ?_
 refine seq_run0 (stp_len_str tyU9 rfl) ?_
 refine seq_run0 (stp_gtr rfl rfl) ?_
 refine awp_cond _ rfl (fun h2 => ?_) (fun h2 => ?_)
 ·replace H := ift h2 H
  refine awp_seq ?_
  refine awp_plain hN rfl ?_
  refine qe rfl ?_
  refine qe rfl ?_
  refine qe rfl ?_
  refine awp_ret ?_
  cases H
  exact ⟨trivial, .inr ⟨rfl, rfl⟩, .inl rfl, .inl rfl, trivial⟩
 ·replace H := iff_ h2 H
  refine awp_skip ?_
  refine awp_seq ?_
  refine awp_plain hN rfl ?_
  refine qd rfl ?_
  obtain ⟨r3, h4, H⟩ := bnd H
  refine seq_run0 (stp_call (k_kit_Lines text1 r3 h4) ⟨.inl rfl, trivial⟩) ?_
  refine qd rfl ?_
  refine seq_run0 (stp_ext rfl rfl) ?_
  refine seq_run0 (stp_ext rfl rfl) ?_
  refine qe rfl ?_
  refine qe rfl ?_
  refine awp_seq ?_
  refine awp_plain hN rfl ?_
  refine qe rfl ?_
  refine awp_seq ?_
  refine awp_seq ?_
  refine awp_plain hN rfl ?_
  refine qd rfl ?_
  refine seq_run0 (t_len tyU55 rfl) ?_
  refine qd rfl ?_
  refine awp_block ?_
  refine awp_nilrow 7 1 46 5 rfl rfl rfl ?_
  obtain ⟨h8, H⟩ := gif H
  refine awp_forL (fun (k6 : Nat) (s : (List S_api_Event)) => [(5, .dat (vlst (List.map C_string r3.1))), (6, .dat (vbool r3.2)), (7, .row 1 s.length), (21, .dat (vlst (List.map C_string r3.1))), (22, .dat (vint (r3.1.length : Int))), (23, .dat (vint (k6 : Int)))]) (fun (k6 : Nat) (s : (List S_api_Event)) => [(1, .row 46 5 (List.map C_api_Event s))]) [] H ⟨rfl, rfl, rfl, rfl, rfl, rfl, trivial⟩ ⟨rfl, trivial⟩ (fun _ _ => rfl) ?_ ?_
  ·rintro l5 H
   replace H : portal_Read_E1 l5 = some r := H
   unfold portal_Read_E1 at H
   refine awp_seq ?_
   refine awp_plain hN rfl ?_
   refine seq_run0 (stp_lss rfl rfl) ?_
   refine awp_seq ?_
   refine awp_cond _ rfl (fun h => (lt_t h).elim) (fun h => ?_)
   refine awp_exit ?_
   refine awp_seq ?_
   refine awp_seq ?_
   refine t_freeze 7 1 rfl rfl rfl ?_
   refine awp_plain hN rfl ?_
   refine qd rfl ?_
   obtain ⟨r10, h11, H⟩ := bnd H
   refine seq_run0 (stp_call (k_portal_formFault l5 r10 h11) ⟨.inl rfl, trivial⟩) ?_
   refine qe rfl ?_
   refine awp_seq ?_
   refine awp_plain hN rfl ?_
   refine qd rfl ?_
   refine seq_run0 (stp_neq rfl rfl) ?_
   refine awp_cond _ rfl (fun h12 => ?_) (fun h12 => ?_)
   ·replace H := ift h12 H
    refine awp_seq ?_
    refine awp_plain hN rfl ?_
    refine qd rfl ?_
    refine qe rfl ?_
    refine qe rfl ?_
    refine qe rfl ?_
    refine awp_ret ?_
    cases H
    exact ⟨trivial, .inr ⟨rfl, rfl⟩, .inl rfl, .inl rfl, trivial⟩
   ·replace H := iff_ h12 H
    refine awp_skip ?_
    refine awp_seq ?_
    refine awp_plain hN rfl ?_
    refine qd rfl ?_
    refine qe rfl ?_
    refine qe rfl ?_
    refine qe rfl ?_
    refine awp_ret ?_
    cases H
    exact ⟨trivial, .inl rfl, .inl rfl, .inl rfl, trivial⟩
  ·rintro k6 x9 l5 q7 h13 h14 H hq7
   replace H : portal_Read_L1 r3 k6 x9 l5 = some q7 := H
   unfold portal_Read_L1 at H
   refine awp_seq ?_
   refine awp_plain hN rfl ?_
   refine seq_run0 (stp_lss rfl rfl) ?_
   refine awp_seq ?_
   refine awp_cond _ rfl (fun h => ?_) (fun h => (lt_f h13 h).elim)
   refine awp_skip ?_
   refine awp_seq ?_
   refine awp_block ?_
   refine awp_seq ?_
   refine awp_plain hN rfl ?_
   refine qd rfl ?_
   refine seq_run0 (t_idx tyE55 (fun _ => rfl) rfl rfl h14) ?_
   refine seq_run0 (stp_loadE1 tyS9 rfl (map_at h14) rfl) ?_
   refine qe rfl ?_
   refine qe rfl ?_
   refine awp_seq ?_
   refine awp_plain hN rfl ?_
   refine qd rfl ?_
   obtain ⟨r15, h16, H⟩ := bnd H
   refine seq_run0 (stp_call (k_portal_readEvent x9 r15 h16) ⟨.inl rfl, trivial⟩) ?_
   refine qd rfl ?_
   refine seq_run0 (stp_ext rfl rfl) ?_
   refine seq_run0 (stp_ext rfl rfl) ?_
   refine seq_run2 (stp_alloc 2 tyZ46 rfl) rfl ?_
   refine seq_run2 (stp_storeW tyS46 rfl rfl rfl rfl) rfl ?_
   refine qe rfl ?_
   refine awp_seq ?_
   refine awp_seq ?_
   refine awp_plain hN rfl ?_
   refine qd rfl ?_
   refine seq_run0 (stp_not rfl) ?_
   refine qd rfl ?_
   refine seq_aF rfl rfl (fun hc => stp_move (.dat _) rfl) ?_
   refine seq_aF rfl rfl (fun hc => stp_not (cnd (c := (!(!r15.2))) hc)) ?_
   refine seq_aF rfl rfl (fun hc => stp_move (.dat _) (cnd (c := (!(!r15.2))) hc)) ?_
   refine seq_bT rfl rfl (fun hc => stp_move (.dat _) rfl) ?_
   refine seq_bT rfl rfl (fun hc => stp_move (.dat _) rfl) ?_
   refine seq_bT rfl rfl (fun hc => t_len tyU55 (cnd (c := ((!(!r15.2)) && (!r3.2))) hc)) ?_
   refine seq_bT rfl rfl (fun hc => stp_wrap _ (cnd (c := ((!(!r15.2)) && (!r3.2))) hc) rfl (.inr (.inl ⟨rfl, rfl⟩))) ?_
   refine seq_bT rfl rfl (fun hc => stp_eql (cnd (c := ((!(!r15.2)) && (!r3.2))) hc) (cnd (c := ((!(!r15.2)) && (!r3.2))) hc)) ?_
   refine seq_aF rfl rfl (fun hc => stp_pick_and (cnd (c := (!(!r15.2))) hc) (fun hb => (cnd (c := ((!(!r15.2)) && (!r3.2))) (andI hc hb))) rfl) ?_
   refine seq_run0 (stp_pick_or rfl rfl (fun hb => (cnd (c := (!(!r15.2))) (notI hb)))) ?_
   refine awp_cond _ rfl (fun h17 => ?_) (fun h17 => ?_)
   ·replace H := ift h17 H
    refine awp_seq ?_
    refine awp_plain hN rfl ?_
    refine qd rfl ?_
    refine qe rfl ?_
    refine qe rfl ?_
    refine qe rfl ?_
    refine awp_ret ?_
    replace H := retl H hq7
    cases H
    exact ⟨trivial, .inr ⟨rfl, rfl⟩, .inl rfl, .inl rfl, trivial⟩
   ·replace H := iff_ h17 H
    refine awp_skip ?_
    refine awp_plain hN rfl ?_
    refine seq_run0 (stp_move (.row _ _) rfl) ?_
    refine seq_run1 (stp_loadA tyS46 rfl rfl rfl) rfl ?_
    refine seq_run0 (stp_dat (u' := vlst (List.map C_api_Event [r15.1])) (stp_lit [_] tyL26 ⟨rfl, .inr rfl, rfl, trivial⟩ rfl rfl) rfl) ?_
    obtain ⟨h18, H⟩ := gif H
    refine seq_run2 (t_app tyL26 (fun _ => rfl) rfl rfl rfl ⟨by simp, by first | (simp; done) | simpa using h18⟩ rfl) rfl ?_
    refine seq_run0 (stp_assign (.row _ _) rfl) ?_
    refine awp_plain hN rfl ?_
    refine seq_run0 (stp_add rfl rfl (by omega)) ?_
    refine qd rfl ?_
    exact ⟨_, backl H, ⟨rfl, rfl, rfl, rfl, rfl, rfl, trivial⟩, ⟨rfl, trivial⟩⟩
theorem k_strings_Cut (s p : Bs) (r : Bs × Bs × Bool) (H : m_strings_Cut s p = some r) : Fn Tryz.prog 45 [vstr s, vstr p] (resOf [vstr r.1, vstr r.2.1, vbool r.2.2]) := by
 unfold m_strings_Cut at H
 obtain ⟨h1, h2⟩ := gif H
 cases h2
 refine fn_of_callsG (by kernel_rfl) fun M w vs hM h => ?_
 have hv := Ts_vals (us := [.string ⟨s.toArray⟩, .string ⟨p.toArray⟩]) h
 subst hv
 obtain ⟨m, hm⟩ := maxLen_cell hM
 refine (Tryz.strings_Cut ⟨s.toArray⟩ ⟨p.toArray⟩ m w (by simp [ByteArray.size]; omega) hm).mono ?_
 rintro e w' ⟨rfl, n, rfl⟩
 refine ⟨_, rfl, ⟨[_, _, _], rfl, rfl, fun j u hj => ?_⟩, ⟨rfl, rfl, rfl, Nat.le_refl _, fun _ _ _ => rfl⟩⟩
 rcases j with _ | _ | _ | j
 ·cases hj; exact ⟨_, rfl, rfl⟩
 ·cases hj; exact ⟨_, rfl, rfl⟩
 ·cases hj; exact ⟨_, rfl, rfl⟩
 ·simp at hj

theorem k_gateref2_Number (s1 : Bs) (most2 : Int) (r : (Int × Bool)) (H : m_gateref2_Number s1 most2 = some r) : Fn Tryz.prog 48 [vstr s1, vint most2] (resOf [vint r.1, vbool r.2]) := by
 refine ⟨by kernel_rfl, pure_of (us := [vint r.1, vbool r.2]) Tryz.func48 rfl rfl rfl rfl fun X hN => ?_⟩
 unfold m_gateref2_Number at H
 refine awp_seq ?_
 refine awp_plain hN rfl ?_
 refine qe rfl ?_
 refine qe rfl ?_
 refine awp_seq ?_
 refine awp_plain hN rfl ?_
 refine qd rfl ?_
 obtain ⟨r3, h4, H⟩ := bnd H
 refine seq_run0 (stp_call (k_strings_TrimPrefix s1 [45] r3 h4) ⟨.inl rfl, .inl rfl, trivial⟩) ?_
 refine qe rfl ?_
 refine awp_seq ?_
 refine awp_joinE (ι := Bool) (fun i => [(0, .dat (vstr s1)), (23, .dat (vbool i))]) (fun i => []) (fun i => gateref2_Number_J1 s1 i = some r) (fun i => rfl) ?_ ?_
 ·skip
  refine awp_plain hN rfl ?_
  refine qd rfl ?_
  refine seq_run0 (stp_seql rfl rfl) ?_
  refine qd rfl ?_
  refine seq_split (j := 2) rfl rfl (fun h5 => ?_) (fun h5 => ?_) rfl
  ·have h6 := un3 h5
   replace H := iff_ h6 H
   refine seq_g0 rfl rfl h5 (stp_move (.dat _) rfl) ?_
   refine seq_g0 rfl rfl h5 (stp_len_str tyU9 rfl) ?_
   refine seq_g0 rfl rfl h5 (stp_move (.dat _) rfl) ?_
   refine seq_g0 rfl rfl h5 (stp_gtr rfl rfl) ?_
   refine seq_run0 (stp_pick_f rfl (bFF h6) rfl) ?_
   refine qd rfl ?_
   refine seq_split (j := 8) rfl rfl (fun h7 => ?_) (fun h7 => ?_) rfl
   ·have h8 := un3 h7
    replace H := iff_ h8 H
    refine seq_g0 rfl rfl h7 (stp_move (.dat _) rfl) ?_
    obtain ⟨r9, h10, H⟩ := bnd H
    refine seq_g0 rfl rfl h7 (stp_call (k_gateref2_only r3 [48, 49, 50, 51, 52, 53, 54, 55, 56, 57] r9 h10) ⟨.inl rfl, .inl rfl, trivial⟩) ?_
    refine seq_g0 rfl rfl h7 (stp_not rfl) ?_
    refine seq_run0 (stp_pick_f rfl (bFF h8) rfl) ?_
    exact ⟨!r9, H, ⟨rfl, rfl, trivial⟩, trivial⟩
   ·have h11 := un4 h7
    replace H := ift h11 H
    refine seq_skip rfl rfl h7 ?_
    refine seq_skip rfl rfl h7 ?_
    refine seq_skip rfl rfl h7 ?_
    refine seq_run0 (stp_pick_t rfl (bTT h11) rfl) ?_
    exact ⟨true, H, ⟨rfl, rfl, trivial⟩, trivial⟩
  ·have h12 := un4 h5
   replace H := ift h12 H
   refine seq_skip rfl rfl h5 ?_
   refine seq_skip rfl rfl h5 ?_
   refine seq_skip rfl rfl h5 ?_
   refine seq_skip rfl rfl h5 ?_
   refine seq_run0 (stp_pick_t rfl (bTT h12) rfl) ?_
   refine qd rfl ?_
   refine seq_skip rfl rfl rfl ?_
   refine seq_skip rfl rfl rfl ?_
   refine seq_skip rfl rfl rfl ?_
   refine seq_run0 (stp_pick_t rfl rfl rfl) ?_
   exact ⟨true, H, ⟨rfl, rfl, trivial⟩, trivial⟩
 ·rintro v13 H
  replace H : gateref2_Number_J1 s1 v13 = some r := H
  unfold gateref2_Number_J1 at H
  refine awp_cond _ rfl (fun h14 => ?_) (fun h14 => ?_)
  ·replace H := ift h14 H
   refine awp_seq ?_
   refine awp_plain hN rfl ?_
   refine qe rfl ?_
   refine qe rfl ?_
   refine awp_ret ?_
   cases H
   exact ⟨trivial, .inl rfl, .inl rfl, trivial⟩
  ·replace H := iff_ h14 H
   refine awp_skip ?_
   refine awp_seq ?_
   refine awp_plain hN rfl ?_
   refine qd rfl ?_
   obtain ⟨r15, h16, H⟩ := bnd H
   refine seq_run0 (stp_call (k_strconv_Atoi s1 r15 h16) ⟨.inl rfl, trivial⟩) ?_
   refine qd rfl ?_
   refine seq_run0 (stp_ext rfl rfl) ?_
   refine seq_run0 (stp_ext rfl rfl) ?_
   refine qe rfl ?_
   refine qe rfl ?_
   refine awp_joinE (ι := Bool) (fun i => [(4, .dat (vint r15.1)), (5, .dat (vbool i))]) (fun i => []) (fun i => gateref2_Number_J2 r15 i = some r) (fun i => rfl) ?_ ?_
   ·skip
    refine awp_plain hN rfl ?_
    refine qd rfl ?_
    refine qd rfl ?_
    refine seq_run0 (stp_erreql (n := r15.2) (show Tryz.prog.underlying 80 = some (.interface (Tryz.prog.methodsAt 80)) from by kernel_rfl) rfl) ?_
    refine qd rfl ?_
    refine seq_split (j := 3) rfl rfl (fun h17 => ?_) (fun h17 => ?_) rfl
    ·have h18 := un1 h17
     replace H := ift h18 H
     refine seq_g0 rfl rfl h17 (stp_move (.dat _) rfl) ?_
     obtain ⟨r19, h20, H⟩ := bnd H
     refine seq_g0 rfl rfl h17 (stp_call (k_strconv_Itoa r15.1 r19 h20) ⟨.inl rfl, trivial⟩) ?_
     refine seq_g0 rfl rfl h17 (stp_move (.dat _) rfl) ?_
     refine seq_g0 rfl rfl h17 (stp_seql rfl rfl) ?_
     refine seq_run0 (stp_pick_t rfl (bTT h18) rfl) ?_
     refine qe rfl ?_
     refine qe rfl ?_
     exact ⟨decide (r19 = s1), H, ⟨rfl, rfl, trivial⟩, trivial⟩
    ·have h21 := un2 h17
     replace H := iff_ h21 H
     refine seq_skip rfl rfl h17 ?_
     refine seq_skip rfl rfl h17 ?_
     refine seq_skip rfl rfl h17 ?_
     refine seq_skip rfl rfl h17 ?_
     refine seq_run0 (stp_pick_f rfl (bFF h21) rfl) ?_
     refine qe rfl ?_
     refine qe rfl ?_
     exact ⟨false, H, ⟨rfl, rfl, trivial⟩, trivial⟩
   ·rintro v22 H
    replace H : gateref2_Number_J2 r15 v22 = some r := H
    unfold gateref2_Number_J2 at H
    refine awp_ret ?_
    cases H
    exact ⟨trivial, .inl rfl, .inl rfl, trivial⟩
theorem k_gateref2_EventsRead (v1 : Bs) (r : ((List S_api_Event) × Int × Int)) (H : m_gateref2_EventsRead v1 = some r) : Fn Tryz.prog 13 [vstr v1] (resOf [vlst (List.map C_api_Event r.1), vint r.2.1, vint r.2.2]) := by
 refine ⟨by kernel_rfl, pure_of (us := [vlst (List.map C_api_Event r.1), vint r.2.1, vint r.2.2]) Tryz.func13 rfl rfl rfl rfl fun X hN => ?_⟩
 unfold m_gateref2_EventsRead at H
 refine awp_seq ?_
 refine awp_plain hN rfl ?_
 refine qe rfl ?_
 refine qe rfl ?_
 refine qe rfl ?_
 refine awp_seq ?_
 refine awp_seq ?_
 refine awp_plain hN rfl ?_
 refine qd rfl ?_
 refine seq_run0 (stp_len_str tyU9 rfl) ?_
 refine seq_run0 (stp_gtr rfl rfl) ?_
 refine awp_cond _ rfl (fun h2 => ?_) (fun h2 => ?_)
 ·replace H := ift h2 H
  refine awp_seq ?_
  refine awp_plain hN rfl ?_
  refine qe rfl ?_
  refine qe rfl ?_
  refine qe rfl ?_
  refine awp_ret ?_
  cases H
  exact ⟨trivial, .inr ⟨rfl, rfl⟩, .inl rfl, .inl rfl, trivial⟩
 ·replace H := iff_ h2 H
  refine awp_skip ?_
  refine awp_seq ?_
  refine awp_plain hN rfl ?_
  refine qe rfl ?_
  refine awp_joinE (ι := (List S_api_Event)) (fun i => [(5, .row 1 i.length)]) (fun i => [(1, .row 46 5 (List.map C_api_Event i))]) (fun i => gateref2_EventsRead_J1 i = some r) (fun i => rfl) ?_ ?_
  ·skip
   refine awp_seq ?_
   refine awp_plain hN rfl ?_
   refine qe rfl ?_
   refine awp_block ?_
   refine awp_nilrow 5 1 46 5 rfl rfl rfl ?_
   refine awp_iter (fun (s : Bs × Int × (List S_api_Event)) => [(0, .dat (vstr s.1)), (5, .row 1 s.2.2.length), (6, .dat (vint s.2.1))]) (fun (s : Bs × Int × (List S_api_Event)) => [(1, .row 46 5 (List.map C_api_Event s.2.2))]) (v1, 0, []) H ⟨rfl, rfl, rfl, trivial⟩ ⟨rfl, trivial⟩ (fun _ => rfl) ?_
   rintro ⟨v3, v4, l5⟩ q6 H hq6
   replace H : gateref2_EventsRead_L2 v3 v4 l5 = some q6 := H
   unfold gateref2_EventsRead_L2 at H
   refine awp_seq ?_
   refine awp_seq ?_
   refine awp_plain hN rfl ?_
   refine qd rfl ?_
   refine seq_run0 (stp_sneq rfl rfl) ?_
   refine awp_cond _ rfl (fun h7 => ?_) (fun h7 => ?_)
   ·replace H := ift h7 H
    refine awp_skip ?_
    refine awp_seq ?_
    refine awp_block ?_
    refine awp_seq ?_
    refine awp_plain hN rfl ?_
    refine qd rfl ?_
    obtain ⟨r8, h9, H⟩ := bnd H
    refine seq_run0 (stp_call (k_strings_Cut v3 [10] r8 h9) ⟨.inl rfl, .inl rfl, trivial⟩) ?_
    refine qd rfl ?_
    refine seq_run0 (stp_ext rfl rfl) ?_
    refine seq_run0 (stp_ext rfl rfl) ?_
    refine seq_run0 (stp_ext rfl rfl) ?_
    refine qe rfl ?_
    refine qe rfl ?_
    refine qe rfl ?_
    refine awp_seq ?_
    refine awp_plain hN rfl ?_
    refine qd rfl ?_
    obtain ⟨r10, h11, H⟩ := bnd H
    refine seq_run0 (stp_call (k_strings_Split r8.1 [32] r10 h11) ⟨.inl rfl, .inl rfl, trivial⟩) ?_
    refine qe rfl ?_
    refine awp_seq ?_
    refine awp_joinE (ι := Bool) (fun i => [(5, .row 1 l5.length), (6, .dat (vint v4)), (8, .dat (vstr r8.2.1)), (10, .dat (vlst (List.map C_string r10))), (41, .dat (vbool i))]) (fun i => [(1, .row 46 5 (List.map C_api_Event l5))]) (fun i => gateref2_EventsRead_J3 v4 l5 r8 r10 i = some q6) (fun i => rfl) ?_ ?_
    ·skip
     refine awp_plain hN rfl ?_
     refine qd rfl ?_
     refine seq_run0 (stp_not rfl) ?_
     refine qd rfl ?_
     refine seq_split (j := 2) rfl rfl (fun h12 => ?_) (fun h12 => ?_) rfl
     ·have h13 := un3 h12
      replace H := iff_ h13 H
      refine seq_g0 rfl rfl h12 (stp_move (.dat _) rfl) ?_
      obtain ⟨r14, h15, H⟩ := bnd H
      refine seq_g0 rfl rfl h12 (stp_call (k_slices_Contains_L_string_string_ r10 [] r14 h15) ⟨.inl rfl, .inl rfl, trivial⟩) ?_
      refine seq_run0 (stp_pick_f rfl (bFF h13) rfl) ?_
      refine qd rfl ?_
      refine seq_split (j := 6) rfl rfl (fun h16 => ?_) (fun h16 => ?_) rfl
      ·have h17 := un3 h16
       replace H := iff_ h17 H
       refine seq_g0 rfl rfl h16 (stp_move (.dat _) rfl) ?_
       refine seq_g0 rfl rfl h16 (t_len tyU55 rfl) ?_
       refine seq_g0 rfl rfl h16 (stp_lss rfl rfl) ?_
       refine seq_run0 (stp_pick_f rfl (bFF h17) rfl) ?_
       exact ⟨decide ((r10.length : Int) < 4), H, ⟨rfl, rfl, rfl, rfl, rfl, trivial⟩, ⟨rfl, trivial⟩⟩
      ·have h18 := un4 h16
       replace H := ift h18 H
       refine seq_skip rfl rfl h16 ?_
       refine seq_skip rfl rfl h16 ?_
       refine seq_skip rfl rfl h16 ?_
       refine seq_run0 (stp_pick_t rfl (bTT h18) rfl) ?_
       exact ⟨true, H, ⟨rfl, rfl, rfl, rfl, rfl, trivial⟩, ⟨rfl, trivial⟩⟩
     ·have h19 := un4 h12
      replace H := ift h19 H
      refine seq_skip rfl rfl h12 ?_
      refine seq_skip rfl rfl h12 ?_
      refine seq_run0 (stp_pick_t rfl (bTT h19) rfl) ?_
      refine qd rfl ?_
      refine seq_skip rfl rfl rfl ?_
      refine seq_skip rfl rfl rfl ?_
      refine seq_skip rfl rfl rfl ?_
      refine seq_run0 (stp_pick_t rfl rfl rfl) ?_
      exact ⟨true, H, ⟨rfl, rfl, rfl, rfl, rfl, trivial⟩, ⟨rfl, trivial⟩⟩
    ·rintro v20 H
     replace H : gateref2_EventsRead_J3 v4 l5 r8 r10 v20 = some q6 := H
     unfold gateref2_EventsRead_J3 at H
     refine awp_cond _ rfl (fun h21 => ?_) (fun h21 => ?_)
     ·replace H := ift h21 H
      refine awp_seq ?_
      refine awp_plain hN rfl ?_
      refine qd rfl ?_
      refine qe rfl ?_
      refine qe rfl ?_
      refine qe rfl ?_
      refine awp_ret ?_
      replace H := retl H hq6
      cases H
      exact ⟨trivial, .inr ⟨rfl, rfl⟩, .inl rfl, .inl rfl, trivial⟩
     ·replace H := iff_ h21 H
      refine awp_skip ?_
      refine awp_seq ?_
      refine awp_plain hN rfl ?_
      refine qd rfl ?_
      obtain ⟨x22, h23, H⟩ := bnd H
      refine seq_run0 (t_idx tyE55 (fun _ => rfl) rfl rfl h23) ?_
      refine seq_run0 (stp_loadE1 tyS9 rfl (map_at h23) rfl) ?_
      obtain ⟨r24, h25, H⟩ := bnd H
      refine seq_run0 (stp_call (k_gateref2_Number x22 15 r24 h25) ⟨.inl rfl, .inl rfl, trivial⟩) ?_
      refine qd rfl ?_
      refine seq_run0 (stp_ext rfl rfl) ?_
      refine seq_run0 (stp_ext rfl rfl) ?_
      refine qe rfl ?_
      refine qe rfl ?_
      refine awp_seq ?_
      refine awp_draw mixed hN rfl rfl ?_
      obtain ⟨r26, h27, H⟩ := bnd H
      refine seq_run0 (stp_call (k_gateref2_eventWords  r26 h27) trivial) ?_
      refine qd rfl ?_
      obtain ⟨x28, h29, H⟩ := bnd H
      refine seq_run0 (t_idx tyE55 (fun _ => rfl) rfl rfl h29) ?_
      refine seq_run0 (stp_loadE1 tyS9 rfl (map_at h29) rfl) ?_
      obtain ⟨r30, h31, H⟩ := bnd H
      refine seq_run0 (stp_call (k_slices_Index_L_string_string_ r26 x28 r30 h31) ⟨.inl rfl, .inl rfl, trivial⟩) ?_
      refine qe rfl ?_
      refine ⟨rfl, ?_⟩
      refine awp_seq ?_
      refine awp_seq ?_
      refine awp_plain hN rfl ?_
      refine qd rfl ?_
      refine seq_run0 (stp_not rfl) ?_
      refine qd rfl ?_
      refine seq_aF rfl rfl (fun hc => stp_move (.dat _) rfl) ?_
      refine seq_aF rfl rfl (fun hc => stp_lss (cnd (c := (!(!r24.2))) hc) rfl) ?_
      refine seq_run0 (stp_pick_or rfl rfl (fun hb => (cnd (c := (!(!r24.2))) (notI hb)))) ?_
      refine qd rfl ?_
      refine seq_aF rfl rfl (fun hc => stp_move (.dat _) rfl) ?_
      refine seq_aF rfl rfl (fun hc => stp_eql (cnd (c := (!((!r24.2) || (decide (r30 < 1))))) hc) rfl) ?_
      refine seq_aF rfl rfl (fun hc => stp_move (.dat _) (cnd (c := (!((!r24.2) || (decide (r30 < 1))))) hc)) ?_
      refine seq_bT rfl rfl (fun hc => stp_move (.dat _) rfl) ?_
      refine seq_bT rfl rfl (fun hc => t_len tyU55 (cnd (c := ((!((!r24.2) || (decide (r30 < 1)))) && (decide (r30 = 1)))) hc)) ?_
      refine seq_bT rfl rfl (fun hc => stp_neq (cnd (c := ((!((!r24.2) || (decide (r30 < 1)))) && (decide (r30 = 1)))) hc) rfl) ?_
      refine seq_aF rfl rfl (fun hc => stp_pick_and (cnd (c := (!((!r24.2) || (decide (r30 < 1))))) hc) (fun hb => (cnd (c := ((!((!r24.2) || (decide (r30 < 1)))) && (decide (r30 = 1)))) (andI hc hb))) rfl) ?_
      refine seq_run0 (stp_pick_or rfl rfl (fun hb => (cnd (c := (!((!r24.2) || (decide (r30 < 1))))) (notI hb)))) ?_
      refine qd rfl ?_
      refine seq_aF rfl rfl (fun hc => stp_move (.dat _) rfl) ?_
      refine seq_aF rfl rfl (fun hc => stp_neq (cnd (c := (!(((!r24.2) || (decide (r30 < 1))) || ((decide (r30 = 1)) && (decide ((r10.length : Int) ≠ 5)))))) hc) rfl) ?_
      refine seq_aF rfl rfl (fun hc => stp_move (.dat _) (cnd (c := (!(((!r24.2) || (decide (r30 < 1))) || ((decide (r30 = 1)) && (decide ((r10.length : Int) ≠ 5)))))) hc)) ?_
      refine seq_bT rfl rfl (fun hc => stp_move (.dat _) rfl) ?_
      refine seq_bT rfl rfl (fun hc => t_len tyU55 (cnd (c := ((!(((!r24.2) || (decide (r30 < 1))) || ((decide (r30 = 1)) && (decide ((r10.length : Int) ≠ 5))))) && (decide (r30 ≠ 1)))) hc)) ?_
      refine seq_bT rfl rfl (fun hc => stp_neq (cnd (c := ((!(((!r24.2) || (decide (r30 < 1))) || ((decide (r30 = 1)) && (decide ((r10.length : Int) ≠ 5))))) && (decide (r30 ≠ 1)))) hc) rfl) ?_
      refine seq_aF rfl rfl (fun hc => stp_pick_and (cnd (c := (!(((!r24.2) || (decide (r30 < 1))) || ((decide (r30 = 1)) && (decide ((r10.length : Int) ≠ 5)))))) hc) (fun hb => (cnd (c := ((!(((!r24.2) || (decide (r30 < 1))) || ((decide (r30 = 1)) && (decide ((r10.length : Int) ≠ 5))))) && (decide (r30 ≠ 1)))) (andI hc hb))) rfl) ?_
      refine seq_run0 (stp_pick_or rfl rfl (fun hb => (cnd (c := (!(((!r24.2) || (decide (r30 < 1))) || ((decide (r30 = 1)) && (decide ((r10.length : Int) ≠ 5)))))) (notI hb)))) ?_
      refine awp_cond _ rfl (fun h32 => ?_) (fun h32 => ?_)
      ·replace H := ift h32 H
       refine awp_seq ?_
       refine awp_plain hN rfl ?_
       refine qd rfl ?_
       refine qe rfl ?_
       refine qe rfl ?_
       refine qe rfl ?_
       refine awp_ret ?_
       replace H := retl H hq6
       cases H
       exact ⟨trivial, .inr ⟨rfl, rfl⟩, .inl rfl, .inl rfl, trivial⟩
      ·replace H := iff_ h32 H
       refine awp_skip ?_
       refine awp_seq ?_
       refine awp_draw mixed hN rfl rfl ?_
       refine qd rfl ?_
       refine qd rfl ?_
       obtain ⟨x33, h34, H⟩ := bnd H
       refine seq_run0 (t_idx tyE55 (fun _ => rfl) rfl rfl h34) ?_
       refine seq_run0 (stp_loadE1 tyS9 rfl (map_at h34) rfl) ?_
       refine qd rfl ?_
       obtain ⟨x35, h36, H⟩ := bnd H
       refine seq_run0 (t_idx tyE55 (fun _ => rfl) rfl rfl h36) ?_
       refine seq_run0 (stp_loadE1 tyS9 rfl (map_at h36) rfl) ?_
       refine qd rfl ?_
       refine seq_run0 (stp_dat (u' := vagg (C_api_Event (S_api_Event.mk r24.1 x33 x35 r30 []))) (stp_build [(0, [vint r24.1]), (1, [vstr x33]), (2, [vstr x35]), (3, [vint r30])] tyZ46 tyP46 rfl ⟨rfl, .inl ⟨_, rfl, rfl, rfl⟩, rfl, rfl, .inl ⟨_, rfl, rfl, rfl⟩, rfl, rfl, .inl ⟨_, rfl, rfl, rfl⟩, rfl, rfl, .inl ⟨_, rfl, rfl, rfl⟩, rfl, trivial⟩) rfl) ?_
       refine seq_run2 (stp_alloc 2 tyZ46 rfl) rfl ?_
       refine seq_run2 (stp_storeW tyS46 rfl rfl rfl rfl) rfl ?_
       refine ⟨rfl, ?_⟩
       refine awp_joinE (ι := Bs) (fun i => [(5, .row 1 l5.length), (6, .dat (vint v4)), (8, .dat (vstr r8.2.1)), (14, .ptr 2 0)]) (fun i => [(1, .row 46 5 (List.map C_api_Event l5)), (2, .box none 46 [.dat (vint r24.1), .dat (vstr x33), .dat (vstr x35), .dat (vint r30), .dat (vstr i)])]) (fun i => gateref2_EventsRead_J4 v4 l5 r8 r24 r30 x33 x35 i = some q6) (fun i => rfl) ?_ ?_
       ·skip
        refine awp_seq ?_
        refine awp_plain hN rfl ?_
        refine qd rfl ?_
        refine seq_run0 (stp_eql rfl rfl) ?_
        refine awp_cond _ rfl (fun h37 => ?_) (fun h37 => ?_)
        ·replace H := ift h37 H
         refine awp_plain hN rfl ?_
         refine qd rfl ?_
         obtain ⟨x38, h39, H⟩ := bnd H
         refine seq_run0 (t_idx tyE55 (fun _ => rfl) rfl rfl h39) ?_
         refine seq_run0 (stp_loadE1 tyS9 rfl (map_at h39) rfl) ?_
         refine seq_run0 (stp_fldP tyF46_4 rfl) ?_
         refine seq_run2 (stp_store1 tyS9 rfl rfl rfl rfl) rfl ?_
         exact ⟨x38, H, ⟨rfl, rfl, rfl, rfl, trivial⟩, ⟨rfl, rfl, trivial⟩⟩
        ·replace H := iff_ h37 H
         refine awp_skip ?_
         exact ⟨[], H, ⟨rfl, rfl, rfl, rfl, trivial⟩, ⟨rfl, rfl, trivial⟩⟩
       ·rintro c40 H
        replace H : gateref2_EventsRead_J4 v4 l5 r8 r24 r30 x33 x35 c40 = some q6 := H
        unfold gateref2_EventsRead_J4 at H
        refine awp_plain hN rfl ?_
        refine seq_run0 (stp_move (.row _ _) rfl) ?_
        refine seq_run1 (stp_loadA tyS46 rfl rfl rfl) rfl ?_
        refine seq_run0 (stp_dat (u' := vlst (List.map C_api_Event [(S_api_Event.mk r24.1 x33 x35 r30 c40)])) (stp_lit [_] tyL26 ⟨rfl, .inr rfl, rfl, trivial⟩ rfl rfl) rfl) ?_
        obtain ⟨h41, H⟩ := gif H
        refine seq_run2 (t_app tyL26 (fun _ => rfl) rfl rfl rfl ⟨by simp, by first | (simp; done) | simpa using h41⟩ rfl) rfl ?_
        refine qd rfl ?_
        refine seq_run0 (stp_assign (.row _ _) rfl) ?_
        refine qe rfl ?_
        refine awp_plain hN rfl ?_
        refine qd rfl ?_
        refine seq_run0 (stp_wrap _ rfl rfl (.inl ⟨rfl, rfl⟩)) ?_
        refine qe rfl ?_
        exact ⟨_, backl H, ⟨rfl, rfl, rfl, trivial⟩, ⟨rfl, trivial⟩⟩
   ·replace H := iff_ h7 H
    refine awp_exit ?_
    replace H := outl H hq6
    exact ⟨l5, H, ⟨rfl, trivial⟩, ⟨rfl, trivial⟩⟩
  ·rintro v42 H
   replace H : gateref2_EventsRead_J1 v42 = some r := H
   unfold gateref2_EventsRead_J1 at H
   refine awp_seq ?_
   refine awp_seq ?_
   refine t_freeze 5 1 rfl rfl rfl ?_
   refine awp_plain hN rfl ?_
   refine qd rfl ?_
   obtain ⟨r43, h44, H⟩ := bnd H
   refine seq_run0 (stp_call (k_gateref2_EventForm v42 r43 h44) ⟨.inl rfl, trivial⟩) ?_
   refine qe rfl ?_
   refine awp_seq ?_
   refine awp_plain hN rfl ?_
   refine qd rfl ?_
   refine seq_run0 (stp_neq rfl rfl) ?_
   refine awp_cond _ rfl (fun h45 => ?_) (fun h45 => ?_)
   ·replace H := ift h45 H
    refine awp_seq ?_
    refine awp_plain hN rfl ?_
    refine qd rfl ?_
    refine qe rfl ?_
    refine qe rfl ?_
    refine qe rfl ?_
    refine awp_ret ?_
    cases H
    exact ⟨trivial, .inr ⟨rfl, rfl⟩, .inl rfl, .inl rfl, trivial⟩
   ·replace H := iff_ h45 H
    refine awp_skip ?_
    refine awp_seq ?_
    refine awp_plain hN rfl ?_
    refine qd rfl ?_
    refine qe rfl ?_
    refine qe rfl ?_
    refine qe rfl ?_
    refine awp_ret ?_
    cases H
    exact ⟨trivial, .inl rfl, .inl rfl, .inl rfl, trivial⟩
theorem k_slices_Equal_L_api_Event_api_Event_ (s1 : (List S_api_Event)) (s2 : (List S_api_Event)) (r : (Bool)) (H : m_slices_Equal_L_api_Event_api_Event_ s1 s2 = some r) : Fn Tryz.prog 14 [vlst (List.map C_api_Event s1), vlst (List.map C_api_Event s2)] (resOf [vbool r]) := by
 refine ⟨by kernel_rfl, pure_of (us := [vbool r]) Tryz.func14 rfl rfl rfl rfl fun X hN => ?_⟩
 unfold m_slices_Equal_L_api_Event_api_Event_ at H
 refine awp_seq ?_
 refine awp_plain hN rfl ?_
 refine qe rfl ?_
 refine awp_seq ?_
 refine awp_seq ?_
 refine awp_plain hN rfl ?_
 refine qd rfl ?_
 refine seq_run0 (t_len tyU26 rfl) ?_
 refine qd rfl ?_
 refine seq_run0 (t_len tyU26 rfl) ?_
 refine seq_run0 (stp_neq rfl rfl) ?_
 refine awp_cond _ rfl (fun h3 => ?_) (fun h3 => ?_)
 ·replace H := ift h3 H
  refine awp_seq ?_
  refine awp_plain hN rfl ?_
  refine qe rfl ?_
  refine awp_ret ?_
  cases H
  exact ⟨trivial, .inl rfl, trivial⟩
 ·replace H := iff_ h3 H
  refine awp_skip ?_
  refine awp_seq ?_
  refine awp_seq ?_
  refine awp_plain hN rfl ?_
  refine qd rfl ?_
  refine seq_run0 (t_len tyU26 rfl) ?_
  refine qd rfl ?_
  refine awp_block ?_
  obtain ⟨h6, H⟩ := gif H
  refine awp_forL (fun (k4 : Nat) (s : Unit) => [(0, .dat (vlst (List.map C_api_Event s1))), (1, .dat (vlst (List.map C_api_Event s2))), (12, .dat (vint (s1.length : Int))), (13, .dat (vint (k4 : Int)))]) (fun (k4 : Nat) (s : Unit) => []) () H ⟨rfl, rfl, rfl, rfl, trivial⟩ trivial (fun _ _ => rfl) ?_ ?_
  ·rintro ⟨⟩ H
   replace H : slices_Equal_L_api_Event_api_Event__E1 = some r := H
   unfold slices_Equal_L_api_Event_api_Event__E1 at H
   refine awp_seq ?_
   refine awp_plain hN rfl ?_
   refine seq_run0 (stp_lss rfl rfl) ?_
   refine awp_seq ?_
   refine awp_cond _ rfl (fun h => (lt_t h).elim) (fun h => ?_)
   refine awp_exit ?_
   refine awp_seq ?_
   refine awp_plain hN rfl ?_
   refine qe rfl ?_
   refine awp_ret ?_
   cases H
   exact ⟨trivial, .inl rfl, trivial⟩
  ·rintro k4 x7 ⟨⟩ q5 h8 h9 H hq5
   replace H : slices_Equal_L_api_Event_api_Event__L1 s2 k4 x7 = some q5 := H
   unfold slices_Equal_L_api_Event_api_Event__L1 at H
   refine awp_seq ?_
   refine awp_plain hN rfl ?_
   refine seq_run0 (stp_lss rfl rfl) ?_
   refine awp_seq ?_
   refine awp_cond _ rfl (fun h => ?_) (fun h => (lt_f h8 h).elim)
   refine awp_skip ?_
   refine awp_seq ?_
   refine awp_block ?_
   refine awp_seq ?_
   refine awp_plain hN rfl ?_
   refine qd rfl ?_
   refine qe rfl ?_
   refine awp_seq ?_
   refine awp_draw mixed hN rfl rfl ?_
   refine qd rfl ?_
   refine qd rfl ?_
   refine seq_run0 (t_idx tyE26 (fun _ => rfl) rfl rfl h9) ?_
   refine seq_run0 (stp_loadEA tyS46 rfl (map_at h9) rfl) ?_
   refine qd rfl ?_
   refine qd rfl ?_
   obtain ⟨x10, h11, H⟩ := bnd H
   refine seq_run0 (t_idx tyE26 (fun _ => rfl) rfl rfl h11) ?_
   refine seq_run0 (stp_loadEA tyS46 rfl (map_at h11) rfl) ?_
   refine seq_run0 (stp_aneq [_, _, _, _, _] [_, _, _, _, _] tyQ46 rfl rfl rfl) ?_
   refine ⟨rfl, ?_⟩
   refine awp_cond _ rfl (fun h12 => ?_) (fun h12 => ?_)
   ·replace H := ift h12 H
    refine awp_seq ?_
    refine awp_plain hN rfl ?_
    refine qe rfl ?_
    refine awp_ret ?_
    replace H := retl H hq5
    cases H
    exact ⟨trivial, .inl rfl, trivial⟩
   ·replace H := iff_ h12 H
    refine awp_skip ?_
    refine awp_plain hN rfl ?_
    refine seq_run0 (stp_add rfl rfl (by omega)) ?_
    refine qd rfl ?_
    exact ⟨_, backl H, ⟨rfl, rfl, rfl, rfl, trivial⟩, trivial⟩
theorem k_token_isScope (s1 : Bs) (r : (Bool)) (H : m_token_isScope s1 = some r) : Fn Tryz.prog 149 [vstr s1] (resOf [vbool r]) := by
 refine ⟨by kernel_rfl, pure_of (us := [vbool r]) Tryz.func149 rfl rfl rfl rfl fun X hN => ?_⟩
 unfold m_token_isScope at H
 refine awp_seq ?_
 refine awp_plain hN rfl ?_
 refine qe rfl ?_
 refine awp_seq ?_
 refine awp_plain hN rfl ?_
 refine qd rfl ?_
 obtain ⟨r2, h3, H⟩ := bnd H
 refine seq_run0 (stp_call (k_strings_Split s1 [58] r2 h3) ⟨.inl rfl, .inl rfl, trivial⟩) ?_
 refine qe rfl ?_
 refine awp_seq ?_
 refine awp_seq ?_
 refine awp_plain hN rfl ?_
 refine qd rfl ?_
 refine seq_run0 (t_len tyU55 rfl) ?_
 refine qd rfl ?_
 refine awp_block ?_
 obtain ⟨h6, H⟩ := gif H
 refine awp_forL (fun (k4 : Nat) (s : Unit) => [(3, .dat (vlst (List.map C_string r2))), (8, .dat (vlst (List.map C_string r2))), (9, .dat (vint (r2.length : Int))), (10, .dat (vint (k4 : Int)))]) (fun (k4 : Nat) (s : Unit) => []) () H ⟨rfl, rfl, rfl, rfl, trivial⟩ trivial (fun _ _ => rfl) ?_ ?_
 ·rintro ⟨⟩ H
  replace H : token_isScope_E1 r2 = some r := H
  unfold token_isScope_E1 at H
  refine awp_seq ?_
  refine awp_plain hN rfl ?_
  refine seq_run0 (stp_lss rfl rfl) ?_
  refine awp_seq ?_
  refine awp_cond _ rfl (fun h => (lt_t h).elim) (fun h => ?_)
  refine awp_exit ?_
  refine awp_seq ?_
  refine awp_plain hN rfl ?_
  refine qd rfl ?_
  refine seq_run0 (t_len tyU55 rfl) ?_
  refine seq_run0 (stp_leq rfl rfl) ?_
  refine qe rfl ?_
  refine awp_ret ?_
  cases H
  exact ⟨trivial, .inl rfl, trivial⟩
 ·rintro k4 x7 ⟨⟩ q5 h8 h9 H hq5
  replace H : token_isScope_L1 r2 k4 x7 = some q5 := H
  unfold token_isScope_L1 at H
  refine awp_seq ?_
  refine awp_plain hN rfl ?_
  refine seq_run0 (stp_lss rfl rfl) ?_
  refine awp_seq ?_
  refine awp_cond _ rfl (fun h => ?_) (fun h => (lt_f h8 h).elim)
  refine awp_skip ?_
  refine awp_seq ?_
  refine awp_block ?_
  refine awp_seq ?_
  refine awp_plain hN rfl ?_
  refine qd rfl ?_
  refine seq_run0 (t_idx tyE55 (fun _ => rfl) rfl rfl h9) ?_
  refine seq_run0 (stp_loadE1 tyS9 rfl (map_at h9) rfl) ?_
  refine qe rfl ?_
  refine qe rfl ?_
  refine awp_seq ?_
  refine awp_plain hN rfl ?_
  refine qd rfl ?_
  obtain ⟨r10, h11, H⟩ := bnd H
  refine seq_run0 (stp_call (k_kit_IsKey x7 r10 h11) ⟨.inl rfl, trivial⟩) ?_
  refine seq_run0 (stp_not rfl) ?_
  refine qd rfl ?_
  refine seq_aT rfl rfl (fun hc => stp_move (.dat _) rfl) ?_
  refine seq_aT rfl rfl (fun hc => stp_seql (cnd (c := (!r10)) hc) rfl) ?_
  refine seq_aT rfl rfl (fun hc => stp_move (.dat _) (cnd (c := (!r10)) hc)) ?_
  refine seq_bT rfl rfl (fun hc => stp_move (.dat _) rfl) ?_
  refine seq_bT rfl rfl (fun hc => stp_move (.dat _) rfl) ?_
  refine seq_bT rfl rfl (fun hc => t_len tyU55 (cnd (c := ((!r10) && (decide (x7 = [42])))) hc)) ?_
  refine seq_bT rfl rfl (fun hc => stp_wrap _ (cnd (c := ((!r10) && (decide (x7 = [42])))) hc) rfl (.inr (.inl ⟨rfl, rfl⟩))) ?_
  refine seq_bT rfl rfl (fun hc => stp_eql (cnd (c := ((!r10) && (decide (x7 = [42])))) hc) (cnd (c := ((!r10) && (decide (x7 = [42])))) hc)) ?_
  refine seq_aT rfl rfl (fun hc => stp_pick_and (cnd (c := (!r10)) hc) (fun hb => (cnd (c := ((!r10) && (decide (x7 = [42])))) (andI hc hb))) rfl) ?_
  refine seq_aT rfl rfl (fun hc => stp_not (cnd (c := (!r10)) hc)) ?_
  refine seq_run0 (stp_pick_and rfl (fun hb => (cnd (c := (!r10)) hb)) rfl) ?_
  refine awp_cond _ rfl (fun h12 => ?_) (fun h12 => ?_)
  ·replace H := ift h12 H
   refine awp_seq ?_
   refine awp_plain hN rfl ?_
   refine qe rfl ?_
   refine awp_ret ?_
   replace H := retl H hq5
   cases H
   exact ⟨trivial, .inl rfl, trivial⟩
  ·replace H := iff_ h12 H
   refine awp_skip ?_
   refine awp_plain hN rfl ?_
   refine seq_run0 (stp_add rfl rfl (by omega)) ?_
   refine qd rfl ?_
   exact ⟨_, backl H, ⟨rfl, rfl, rfl, rfl, trivial⟩, trivial⟩
theorem k_token_CheckScopes (l1 : (List Bs)) (r : (Int)) (H : m_token_CheckScopes l1 = some r) : Fn Tryz.prog 130 [vlst (List.map C_string l1)] (resOf [vint r]) := by
 refine ⟨by kernel_rfl, pure_of (us := [vint r]) Tryz.func130 rfl rfl rfl rfl fun X hN => ?_⟩
 unfold m_token_CheckScopes at H
 refine awp_seq ?_
 refine awp_plain hN rfl ?_
 refine qe rfl ?_
 refine awp_seq ?_
 refine awp_seq ?_
 refine awp_plain hN rfl ?_
 refine qd rfl ?_
 refine seq_run0 (t_len tyU55 rfl) ?_
 refine seq_run0 (stp_gtr rfl rfl) ?_
 refine awp_cond _ rfl (fun h2 => ?_) (fun h2 => ?_)
 ·replace H := ift h2 H
  refine awp_seq ?_
  refine awp_plain hN rfl ?_
  refine qe rfl ?_
  refine awp_ret ?_
  cases H
  exact ⟨trivial, .inl rfl, trivial⟩
 ·replace H := iff_ h2 H
  refine awp_skip ?_
  refine awp_seq ?_
  refine awp_seq ?_
  refine awp_plain hN rfl ?_
  refine qd rfl ?_
  refine seq_run0 (t_len tyU55 rfl) ?_
  refine qd rfl ?_
  refine awp_block ?_
  obtain ⟨h5, H⟩ := gif H
  refine awp_forL (fun (k3 : Nat) (s : Unit) => [(8, .dat (vlst (List.map C_string l1))), (9, .dat (vint (l1.length : Int))), (10, .dat (vint (k3 : Int)))]) (fun (k3 : Nat) (s : Unit) => []) () H ⟨rfl, rfl, rfl, trivial⟩ trivial (fun _ _ => rfl) ?_ ?_
  ·rintro ⟨⟩ H
   replace H : token_CheckScopes_E1 = some r := H
   unfold token_CheckScopes_E1 at H
   refine awp_seq ?_
   refine awp_plain hN rfl ?_
   refine seq_run0 (stp_lss rfl rfl) ?_
   refine awp_seq ?_
   refine awp_cond _ rfl (fun h => (lt_t h).elim) (fun h => ?_)
   refine awp_exit ?_
   refine awp_seq ?_
   refine awp_plain hN rfl ?_
   refine qe rfl ?_
   refine awp_ret ?_
   cases H
   exact ⟨trivial, .inl rfl, trivial⟩
  ·rintro k3 x6 ⟨⟩ q4 h7 h8 H hq4
   replace H : token_CheckScopes_L1 k3 x6 = some q4 := H
   unfold token_CheckScopes_L1 at H
   refine awp_seq ?_
   refine awp_plain hN rfl ?_
   refine seq_run0 (stp_lss rfl rfl) ?_
   refine awp_seq ?_
   refine awp_cond _ rfl (fun h => ?_) (fun h => (lt_f h7 h).elim)
   refine awp_skip ?_
   refine awp_seq ?_
   refine awp_block ?_
   refine awp_seq ?_
   refine awp_plain hN rfl ?_
   refine seq_run0 (t_idx tyE55 (fun _ => rfl) rfl rfl h8) ?_
   refine seq_run0 (stp_loadE1 tyS9 rfl (map_at h8) rfl) ?_
   refine qe rfl ?_
   refine awp_seq ?_
   refine awp_plain hN rfl ?_
   refine qd rfl ?_
   obtain ⟨r9, h10, H⟩ := bnd H
   refine seq_run0 (stp_call (k_token_isScope x6 r9 h10) ⟨.inl rfl, trivial⟩) ?_
   refine seq_run0 (stp_not rfl) ?_
   refine awp_cond _ rfl (fun h11 => ?_) (fun h11 => ?_)
   ·replace H := ift h11 H
    refine awp_seq ?_
    refine awp_plain hN rfl ?_
    refine qe rfl ?_
    refine awp_ret ?_
    replace H := retl H hq4
    cases H
    exact ⟨trivial, .inl rfl, trivial⟩
   ·replace H := iff_ h11 H
    refine awp_skip ?_
    refine awp_plain hN rfl ?_
    refine seq_run0 (stp_add rfl rfl (by omega)) ?_
    refine qd rfl ?_
    exact ⟨_, backl H, ⟨rfl, rfl, rfl, trivial⟩, trivial⟩
theorem k_portal_productsFault (l1 : (List S_api_Product)) (r : (Int)) (H : m_portal_productsFault l1 = some r) : Fn Tryz.prog 97 [vlst (List.map C_api_Product l1)] (resOf [vint r]) := by
 refine ⟨by kernel_rfl, pure_of (us := [vint r]) Tryz.func97 rfl rfl rfl rfl fun X hN => ?_⟩
 unfold m_portal_productsFault at H
 refine awp_seq ?_
 refine awp_plain hN rfl ?_
 refine qe rfl ?_
 refine awp_seq ?_
 refine awp_seq ?_
 refine awp_plain hN rfl ?_
 refine qd rfl ?_
 refine seq_run0 (t_len tyU28 rfl) ?_
 refine seq_run0 (stp_gtr rfl rfl) ?_
 refine awp_cond _ rfl (fun h2 => ?_) (fun h2 => ?_)
 ·replace H := ift h2 H
  refine awp_seq ?_
  refine awp_plain hN rfl ?_
  refine qe rfl ?_
  refine awp_ret ?_
  cases H
  exact ⟨trivial, .inl rfl, trivial⟩
 ·replace H := iff_ h2 H
  refine awp_skip ?_
  refine awp_seq ?_
  refine awp_seq ?_
  refine awp_plain hN rfl ?_
  refine qd rfl ?_
  refine seq_run0 (t_len tyU28 rfl) ?_
  refine qd rfl ?_
  refine awp_block ?_
  obtain ⟨h5, H⟩ := gif H
  refine awp_forL (fun (k3 : Nat) (s : Unit) => [(0, .dat (vlst (List.map C_api_Product l1))), (9, .dat (vlst (List.map C_api_Product l1))), (10, .dat (vint (l1.length : Int))), (11, .dat (vint (k3 : Int)))]) (fun (k3 : Nat) (s : Unit) => []) () H ⟨rfl, rfl, rfl, rfl, trivial⟩ trivial (fun _ _ => rfl) ?_ ?_
  ·rintro ⟨⟩ H
   replace H : portal_productsFault_E1 = some r := H
   unfold portal_productsFault_E1 at H
   refine awp_seq ?_
   refine awp_plain hN rfl ?_
   refine seq_run0 (stp_lss rfl rfl) ?_
   refine awp_seq ?_
   refine awp_cond _ rfl (fun h => (lt_t h).elim) (fun h => ?_)
   refine awp_exit ?_
   refine awp_seq ?_
   refine awp_plain hN rfl ?_
   refine qe rfl ?_
   refine awp_ret ?_
   cases H
   exact ⟨trivial, .inl rfl, trivial⟩
  ·rintro k3 x6 ⟨⟩ q4 h7 h8 H hq4
   replace H : portal_productsFault_L1 l1 k3 x6 = some q4 := H
   unfold portal_productsFault_L1 at H
   refine awp_seq ?_
   refine awp_plain hN rfl ?_
   refine seq_run0 (stp_lss rfl rfl) ?_
   refine awp_seq ?_
   refine awp_cond _ rfl (fun h => ?_) (fun h => (lt_f h7 h).elim)
   refine awp_skip ?_
   refine awp_seq ?_
   refine awp_block ?_
   refine awp_seq ?_
   refine awp_plain hN rfl ?_
   refine qd rfl ?_
   refine seq_run0 (t_idx tyE28 (fun _ => rfl) rfl rfl h8) ?_
   refine seq_run0 (stp_loadEA tyS74 rfl (map_at h8) rfl) ?_
   refine seq_run2 (stp_alloc 1 tyZ74 rfl) rfl ?_
   refine qe rfl ?_
   refine seq_run2 (stp_storeW tyS74 rfl rfl rfl rfl) rfl ?_
   refine awp_seq ?_
   refine awp_seq ?_
   refine awp_plain hN rfl ?_
   refine seq_run0 (stp_fldP tyF74_0 rfl) ?_
   refine seq_run1 (stp_load1 tyS9 rfl rfl) rfl ?_
   obtain ⟨r9, h10, H⟩ := bnd H
   refine seq_run0 (stp_call (k_kit_IsKey x6.Key r9 h10) ⟨.inl rfl, trivial⟩) ?_
   refine seq_run0 (stp_not rfl) ?_
   refine awp_cond _ rfl (fun h11 => ?_) (fun h11 => ?_)
   ·replace H := ift h11 H
    refine awp_seq ?_
    refine awp_plain hN rfl ?_
    refine qe rfl ?_
    refine awp_ret ?_
    replace H := retl H hq4
    cases H
    exact ⟨trivial, .inl rfl, trivial⟩
   ·replace H := iff_ h11 H
    refine awp_skip ?_
    refine awp_seq ?_
    refine awp_joinE (ι := Bool) (fun i => [(0, .dat (vlst (List.map C_api_Product l1))), (4, .ptr 1 0), (9, .dat (vlst (List.map C_api_Product l1))), (10, .dat (vint (l1.length : Int))), (11, .dat (vint (k3 : Int))), (32, .dat (vbool i))]) (fun i => [(1, .box none 74 [.dat (vstr x6.Key), .dat (vlst (List.map C_string x6.Scopes))])]) (fun i => portal_productsFault_J2 x6 i = some q4) (fun i => rfl) ?_ ?_
    ·skip
     refine awp_draw mixed hN rfl rfl ?_
     refine qd rfl ?_
     refine seq_run0 (stp_gtr rfl rfl) ?_
     refine qd rfl ?_
     refine seq_split (j := 2) rfl rfl (fun h12 => ?_) (fun h12 => ?_) rfl
     ·have h13 := un1 h12
      replace H := ift h13 H
      refine seq_g0 rfl rfl h12 (stp_fldP tyF74_0 rfl) ?_
      refine seq_g1 rfl rfl h12 (stp_load1 tyS9 rfl rfl) rfl ?_
      refine seq_g0 rfl rfl h12 (stp_move (.dat _) rfl) ?_
      refine seq_g0 rfl rfl h12 (stp_move (.dat _) rfl) ?_
      refine seq_g0 rfl rfl h12 (stp_sub rfl rfl (by omega)) ?_
      obtain ⟨x14, h15, H⟩ := bnd H
      refine seq_g0 rfl rfl h12 (t_idxI tyE28 (fun _ => rfl) rfl rfl h15) ?_
      refine seq_g0 rfl rfl h12 (stp_fldE tyF74_0 rfl) ?_
      refine seq_g0 rfl rfl h12 (stp_loadE1 tyS9 rfl (map_at (at_some h15).2) rfl) ?_
      refine seq_g0 rfl rfl h12 (stp_sleq rfl rfl) ?_
      refine seq_run0 (stp_pick_t rfl (bTT h13) rfl) ?_
      refine ⟨rfl, ?_⟩
      exact ⟨(Op.bytesLess x6.Key x14.Key || x6.Key == x14.Key), H, ⟨rfl, rfl, rfl, rfl, rfl, rfl, trivial⟩, ⟨rfl, trivial⟩⟩
     ·have h16 := un2 h12
      replace H := iff_ h16 H
      refine seq_skip rfl rfl h12 ?_
      refine seq_skip rfl rfl h12 ?_
      refine seq_skip rfl rfl h12 ?_
      refine seq_skip rfl rfl h12 ?_
      refine seq_skip rfl rfl h12 ?_
      refine seq_skip rfl rfl h12 ?_
      refine seq_skip rfl rfl h12 ?_
      refine seq_skip rfl rfl h12 ?_
      refine seq_skip rfl rfl h12 ?_
      refine seq_run0 (stp_pick_f rfl (bFF h16) rfl) ?_
      refine ⟨rfl, ?_⟩
      exact ⟨false, H, ⟨rfl, rfl, rfl, rfl, rfl, rfl, trivial⟩, ⟨rfl, trivial⟩⟩
    ·rintro v17 H
     replace H : portal_productsFault_J2 x6 v17 = some q4 := H
     unfold portal_productsFault_J2 at H
     refine awp_cond _ rfl (fun h18 => ?_) (fun h18 => ?_)
     ·replace H := ift h18 H
      refine awp_seq ?_
      refine awp_plain hN rfl ?_
      refine qe rfl ?_
      refine awp_ret ?_
      replace H := retl H hq4
      cases H
      exact ⟨trivial, .inl rfl, trivial⟩
     ·replace H := iff_ h18 H
      refine awp_skip ?_
      refine awp_seq ?_
      refine awp_plain hN rfl ?_
      refine seq_run0 (stp_fldP tyF74_1 rfl) ?_
      refine seq_run1 (stp_load1 tyS55 rfl rfl) rfl ?_
      obtain ⟨r19, h20, H⟩ := bnd H
      refine seq_run0 (stp_call (k_token_CheckScopes x6.Scopes r19 h20) ⟨.inl rfl, trivial⟩) ?_
      refine qe rfl ?_
      refine awp_seq ?_
      refine awp_plain hN rfl ?_
      refine qd rfl ?_
      refine seq_run0 (stp_neq rfl rfl) ?_
      refine awp_cond _ rfl (fun h21 => ?_) (fun h21 => ?_)
      ·replace H := ift h21 H
       refine awp_seq ?_
       refine awp_plain hN rfl ?_
       refine qd rfl ?_
       refine qe rfl ?_
       refine awp_ret ?_
       replace H := retl H hq4
       cases H
       exact ⟨trivial, .inl rfl, trivial⟩
      ·replace H := iff_ h21 H
       refine awp_skip ?_
       refine awp_plain hN rfl ?_
       refine seq_run0 (stp_add rfl rfl (by omega)) ?_
       refine qd rfl ?_
       exact ⟨_, backl H, ⟨rfl, rfl, rfl, rfl, trivial⟩, trivial⟩
theorem k_slices_BinarySearchFunc_L_api_Product_api_Product_string_ (x1 : (List S_api_Product)) (target2 : Bs) (p2 : S_api_Product → Bs → Option (Int)) (fv2 : Nat) (us2 : List V) (hp2 : ∀ a0 a1 r, p2 a0 a1 = some r → Fn Tryz.prog fv2 ([vagg (C_api_Product a0), vstr a1] ++ us2) (resOf [vint r])) (r : (Int × Bool)) (H : m_slices_BinarySearchFunc_L_api_Product_api_Product_string_ x1 target2 p2 = some r) : Fn Tryz.prog 150 [vlst (List.map C_api_Product x1), vstr target2, vfn fv2 us2] (resOf [vint r.1, vbool r.2]) := by
 refine ⟨by kernel_rfl, pure_of (us := [vint r.1, vbool r.2]) Tryz.func150 rfl rfl rfl rfl fun X hN => ?_⟩
 unfold m_slices_BinarySearchFunc_L_api_Product_api_Product_string_ at H
 refine awp_seq ?_
 refine awp_plain hN rfl ?_
 refine qe rfl ?_
 refine qe rfl ?_
 refine awp_seq ?_
 refine awp_plain hN rfl ?_
 refine qd rfl ?_
 refine seq_run0 (t_len tyU28 rfl) ?_
 refine qe rfl ?_
 refine awp_seq ?_
 refine awp_plain hN rfl ?_
 refine qd rfl ?_
 refine qe rfl ?_
 refine qe rfl ?_
 refine awp_joinE (ι := Int) (fun i => [(0, .dat (vlst (List.map C_api_Product x1))), (1, .dat (vstr target2)), (2, .dat (vfn fv2 us2)), (8, .dat (vint (x1.length : Int))), (9, .dat (vint i))]) (fun i => []) (fun i => slices_BinarySearchFunc_L_api_Product_api_Product_string__J1 x1 target2 p2 i = some r) (fun i => rfl) ?_ ?_
 ·skip
  refine awp_block ?_
  refine awp_iter (fun (s : Int × Int) => [(0, .dat (vlst (List.map C_api_Product x1))), (1, .dat (vstr target2)), (2, .dat (vfn fv2 us2)), (8, .dat (vint (x1.length : Int))), (9, .dat (vint s.1)), (10, .dat (vint s.2))]) (fun (s : Int × Int) => []) (0, (x1.length : Int)) H ⟨rfl, rfl, rfl, rfl, rfl, rfl, trivial⟩ trivial (fun _ => rfl) ?_
  rintro ⟨i3, j4⟩ q5 H hq5
  replace H : slices_BinarySearchFunc_L_api_Product_api_Product_string__L2 x1 target2 p2 i3 j4 = some q5 := H
  unfold slices_BinarySearchFunc_L_api_Product_api_Product_string__L2 at H
  refine awp_seq ?_
  refine awp_seq ?_
  refine awp_plain hN rfl ?_
  refine qd rfl ?_
  refine qd rfl ?_
  refine seq_run0 (stp_lss rfl rfl) ?_
  refine awp_cond _ rfl (fun h6 => ?_) (fun h6 => ?_)
  ·replace H := ift h6 H
   refine awp_skip ?_
   refine awp_block ?_
   refine awp_seq ?_
   refine awp_plain hN rfl ?_
   refine qd rfl ?_
   refine qd rfl ?_
   refine seq_run0 (stp_wrap _ rfl rfl (.inl ⟨rfl, rfl⟩)) ?_
   refine seq_run0 (stp_conv tyU3 tyU133 rfl) ?_
   refine seq_run0 (stp_dat (stp_shr rfl rfl (by decide)) rfl) ?_
   refine seq_run0 (stp_conv tyU133 tyU3 rfl) ?_
   refine qe rfl ?_
   refine awp_seq ?_
   refine awp_plain hN rfl ?_
   refine qd rfl ?_
   refine qd rfl ?_
   refine qd rfl ?_
   obtain ⟨x7, h8, H⟩ := bnd H
   refine seq_run0 (t_idxI tyE28 (fun _ => rfl) rfl rfl h8) ?_
   refine seq_run0 (stp_loadEA tyS74 rfl (map_at (at_some h8).2) rfl) ?_
   refine qd rfl ?_
   obtain ⟨r9, h10, H⟩ := bnd H
   refine seq_run0 (stp_callv (hp2 x7 target2 r9 h10) rfl ⟨.inl rfl, .inl rfl, trivial⟩) ?_
   refine seq_run0 (stp_lss rfl rfl) ?_
   refine awp_cond _ rfl (fun h11 => ?_) (fun h11 => ?_)
   ·replace H := ift h11 H
    refine awp_plain hN rfl ?_
    refine qd rfl ?_
    refine seq_run0 (stp_wrap _ rfl rfl (.inl ⟨rfl, rfl⟩)) ?_
    refine qe rfl ?_
    exact ⟨_, backl H, ⟨rfl, rfl, rfl, rfl, rfl, rfl, trivial⟩, trivial⟩
   ·replace H := iff_ h11 H
    refine awp_plain hN rfl ?_
    refine qd rfl ?_
    refine qe rfl ?_
    exact ⟨_, backl H, ⟨rfl, rfl, rfl, rfl, rfl, rfl, trivial⟩, trivial⟩
  ·replace H := iff_ h6 H
   refine awp_exit ?_
   replace H := outl H hq5
   exact ⟨i3, H, ⟨rfl, rfl, rfl, rfl, rfl, trivial⟩, trivial⟩
 ·rintro i12 H
  replace H : slices_BinarySearchFunc_L_api_Product_api_Product_string__J1 x1 target2 p2 i12 = some r := H
  unfold slices_BinarySearchFunc_L_api_Product_api_Product_string__J1 at H
  refine awp_joinE (ι := Bool) (fun i => [(6, .dat (vint i12)), (7, .dat (vbool i))]) (fun i => []) (fun i => slices_BinarySearchFunc_L_api_Product_api_Product_string__J3 i12 i = some r) (fun i => rfl) ?_ ?_
  ·skip
   refine awp_plain hN rfl ?_
   refine qd rfl ?_
   refine qd rfl ?_
   refine qd rfl ?_
   refine seq_run0 (stp_lss rfl rfl) ?_
   refine qd rfl ?_
   refine seq_split (j := 4) rfl rfl (fun h13 => ?_) (fun h13 => ?_) rfl
   ·have h14 := un1 h13
    replace H := ift h14 H
    refine seq_g0 rfl rfl h13 (stp_move (.dat _) rfl) ?_
    refine seq_g0 rfl rfl h13 (stp_move (.dat _) rfl) ?_
    refine seq_g0 rfl rfl h13 (stp_move (.dat _) rfl) ?_
    obtain ⟨x15, h16, H⟩ := bnd H
    refine seq_g0 rfl rfl h13 (t_idxI tyE28 (fun _ => rfl) rfl rfl h16) ?_
    refine seq_g0 rfl rfl h13 (stp_loadEA tyS74 rfl (map_at (at_some h16).2) rfl) ?_
    refine seq_g0 rfl rfl h13 (stp_move (.dat _) rfl) ?_
    obtain ⟨r17, h18, H⟩ := bnd H
    refine seq_g0 rfl rfl h13 (stp_callv (hp2 x15 target2 r17 h18) rfl ⟨.inl rfl, .inl rfl, trivial⟩) ?_
    refine seq_g0 rfl rfl h13 (stp_eql rfl rfl) ?_
    refine seq_run0 (stp_pick_t rfl (bTT h14) rfl) ?_
    refine qe rfl ?_
    refine qe rfl ?_
    exact ⟨decide (r17 = 0), H, ⟨rfl, rfl, trivial⟩, trivial⟩
   ·have h19 := un2 h13
    replace H := iff_ h19 H
    refine seq_skip rfl rfl h13 ?_
    refine seq_skip rfl rfl h13 ?_
    refine seq_skip rfl rfl h13 ?_
    refine seq_skip rfl rfl h13 ?_
    refine seq_skip rfl rfl h13 ?_
    refine seq_skip rfl rfl h13 ?_
    refine seq_skip rfl rfl h13 ?_
    refine seq_skip rfl rfl h13 ?_
    refine seq_run0 (stp_pick_f rfl (bFF h19) rfl) ?_
    refine qe rfl ?_
    refine qe rfl ?_
    exact ⟨false, H, ⟨rfl, rfl, trivial⟩, trivial⟩
  ·rintro v20 H
   replace H : slices_BinarySearchFunc_L_api_Product_api_Product_string__J3 i12 v20 = some r := H
   unfold slices_BinarySearchFunc_L_api_Product_api_Product_string__J3 at H
   refine awp_ret ?_
   cases H
   exact ⟨trivial, .inl rfl, .inl rfl, trivial⟩
theorem k_portal_productAt_1 (p1 : S_api_Product) (k2 : Bs) (r : (Int)) (H : m_portal_productAt_1 p1 k2 = some r) : Fn Tryz.prog 151 [vagg (C_api_Product p1), vstr k2] (resOf [vint r]) := by
 refine ⟨by kernel_rfl, pure_of (us := [vint r]) Tryz.func151 rfl rfl rfl rfl fun X hN => ?_⟩
 unfold m_portal_productAt_1 at H
 refine awp_seq ?_
 refine awp_plain hN rfl ?_
 refine seq_run2 (stp_boxA 1 rfl) rfl ?_
 refine qe rfl ?_
 refine awp_seq ?_
 refine awp_plain hN rfl ?_
 refine seq_run0 (stp_fldP tyF74_0 rfl) ?_
 refine seq_run1 (stp_load1 tyS9 rfl rfl) rfl ?_
 refine qd rfl ?_
 obtain ⟨r3, h4, H⟩ := bnd H
 refine seq_run0 (stp_call (k_strings_Compare p1.Key k2 r3 h4) ⟨.inl rfl, .inl rfl, trivial⟩) ?_
 refine qe rfl ?_
 refine awp_ret ?_
 cases H
 exact ⟨trivial, .inl rfl, trivial⟩
theorem k_portal_productAt (c1 : S_api_Catalog) (key2 : Bs) (r : (Int × Bool)) (H : m_portal_productAt c1 key2 = some r) : Fn Tryz.prog 131 [vagg (C_api_Catalog c1), vstr key2] (resOf [vint r.1, vbool r.2]) := by
 refine ⟨by kernel_rfl, pure_of (us := [vint r.1, vbool r.2]) Tryz.func131 rfl rfl rfl rfl fun X hN => ?_⟩
 unfold m_portal_productAt at H
 refine awp_seq ?_
 refine awp_plain hN rfl ?_
 refine seq_run2 (stp_boxA 1 rfl) rfl ?_
 refine qe rfl ?_
 refine qe rfl ?_
 refine awp_seq ?_
 refine awp_plain hN rfl ?_
 refine seq_run0 (stp_fldP tyF31_0 rfl) ?_
 refine seq_run1 (stp_load1 tyS28 rfl rfl) rfl ?_
 refine qd rfl ?_
 obtain ⟨r3, h4, H⟩ := bnd H
 refine seq_run0 (stp_callW (k_slices_BinarySearchFunc_L_api_Product_api_Product_string_ c1.Products key2 (fun (a0 : S_api_Product) (a1 : Bs) => m_portal_productAt_1 a0 a1) 151 [] (fun a0 a1 r h => k_portal_productAt_1 a0 a1 r h) r3 h4) ⟨.inl (.inl rfl), .inl (.inl rfl), .inr ⟨_, rfl, rfl⟩, trivial⟩) ?_
 refine seq_run0 (stp_ext rfl rfl) ?_
 refine seq_run0 (stp_ext rfl rfl) ?_
 refine qe rfl ?_
 refine qe rfl ?_
 refine awp_ret ?_
 cases H
 exact ⟨trivial, .inl rfl, .inl rfl, trivial⟩
end Go.Proofs.YtloinbpihpcblaaGreatDoor
