/- Walks along the models. Printed by a program. -/
import Derived.Test.YtgjfcdcpiamikaaGreatDoorYzw5
namespace Go.Proofs.YtgjfcdcpiamikaaGreatDoor
open Go.RowKit
set_option linter.unusedVariables false
set_option maxRecDepth 20000
set_option maxHeartbeats 2000000
theorem k_message_normalUnits (s1 : Bs) (r : (Bs × Bool)) (H : m_message_normalUnits s1 = some r) : Fn Tryz.prog 99 [vstr s1] (resOf [vstr r.1, vbool r.2]) := by
 refine ⟨by kernel_rfl, pure_of (us := [vstr r.1, vbool r.2]) Tryz.func99 rfl rfl rfl rfl fun X hN => ?_⟩
 unfold m_message_normalUnits at H
 refine awp_seq ?_
 refine awp_plain hN rfl ?_
 refine qe rfl ?_
 refine qe rfl ?_
 refine awp_seq ?_
 refine awp_plain hN rfl ?_
 refine seq_run2 (stp_alloc 1 tyZ80 rfl) rfl ?_
 refine awp_wkB 1 0 (.nptr 1) rfl rfl nptr_nil ?_
 refine awp_nilrowB 1 1 2 5 1 rfl rfl rfl rfl ?_
 refine awp_joinE (ι := (List Int)) (fun i => [(4, .ptr 1 0)]) (fun i => [(1, .box none 80 [.nptr 1, .row 2 i.length]), (2, .row 5 1 (List.map C_uint8 i))]) (fun i => message_normalUnits_J1 i = some r) (fun i => rfl) ?_ ?_
 ·refine awp_cv ?_
  refine awp_seq ?_
  refine awp_plain hN rfl ?_
  refine qe rfl ?_
  refine awp_block ?_
  refine awp_iter (fun (s : Int × (List Int)) => [(0, .dat (vstr s1)), (4, .ptr 1 0), (5, .dat (vint s.1))]) (fun (s : Int × (List Int)) => [(1, .box none 80 [.nptr 1, .row 2 s.2.length]), (2, .row 5 1 (List.map C_uint8 s.2))]) (0, ([] : List Int)) H ⟨rfl, rfl, rfl, trivial⟩ ⟨rfl, rfl, trivial⟩ (fun _ => rfl) ?_
  rintro ⟨i2, l3⟩ q4 H hq4
  replace H : message_normalUnits_L2 s1 i2 l3 = some q4 := H
  unfold message_normalUnits_L2 at H
  refine awp_cv ?_
  refine awp_seq ?_
  refine awp_seq ?_
  refine awp_plain hN rfl ?_
  refine qd rfl ?_
  refine qd rfl ?_
  refine seq_run0 (stp_len_str tyU9 rfl) ?_
  refine seq_run0 (stp_lss rfl rfl) ?_
  refine awp_cond _ rfl (fun h5 => ?_) (fun h5 => ?_)
  ·replace H := ift h5 H
   refine awp_skip ?_
   refine awp_joinE (ι := Int × (List Int)) (fun i => [(0, .dat (vstr s1)), (4, .ptr 1 0), (5, .dat (vint i.1))]) (fun i => [(1, .box none 80 [.nptr 1, .row 7 i.2.length]), (7, .row 5 1 (List.map C_uint8 i.2))]) (fun i => message_normalUnits_J3 i.1 i.2 = some q4) (fun i => rfl) ?_ ?_
   ·refine awp_cv ?_
    refine awp_block ?_
    refine awp_seq ?_
    refine awp_seq ?_
    refine awp_plain hN rfl ?_
    refine qd rfl ?_
    refine qd rfl ?_
    obtain ⟨x6, h7, H⟩ := bnd H
    refine seq_run0 (t_byteI tyU9 rfl rfl h7) ?_
    refine seq_run0 (stp_neq rfl rfl) ?_
    refine awp_cond _ rfl (fun h8 => ?_) (fun h8 => ?_)
    ·replace H := ift h8 H
     refine awp_seq ?_
     refine awp_plain hN rfl ?_
     refine qd rfl ?_
     refine qd rfl ?_
     refine seq_run0 (t_byteI tyU9 rfl rfl h7) ?_
     obtain ⟨r9, h10, H⟩ := bnd H
     refine seq_callG (rn [(0, 1), (1, 2), (900, 3)]) [(0, _, _, some _), (1, _, _, none)] [(900, _)] (kb_strings_Builder_WriteByte l3 (x6.toNat : Int) r9 h10) ⟨rfl, rfl, rfl, trivial⟩ ⟨.inl (.inl rfl), .inl (.inl rfl), trivial⟩ ⟨⟨⟨rfl, rfl⟩, trivial⟩, ⟨⟨rfl, rfl, rfl⟩, trivial⟩, trivial⟩ rfl ?_
     refine awp_exit ?_
     show Cv _ _ _ _
     refine cv_ren (rn [(3, 7)]) [(0, .dat (vstr s1)), (4, .ptr 1 0), (5, .dat (vint i2))] [(1, .box none 80 [.nptr 1, .row 3 r9.2.length]), (3, .row 5 1 (List.map C_uint8 r9.2))] ⟨rfl, rfl, rfl, trivial⟩ ⟨rfl, rfl, trivial⟩ rfl rfl ?_
     exact ⟨(i2, r9.2), H, ⟨rfl, rfl, rfl, trivial⟩, ⟨rfl, rfl, trivial⟩⟩
    ·replace H := iff_ h8 H
     refine awp_skip ?_
     refine awp_seq ?_
     refine awp_seq ?_
     refine awp_plain hN rfl ?_
     refine qd rfl ?_
     refine qd rfl ?_
     obtain ⟨r11, h12, H⟩ := bnd H
     refine seq_run0 (stp_call (k_message_isUnit s1 i2 r11 h12) ⟨.inl rfl, .inl rfl, trivial⟩) ?_
     refine seq_run0 (stp_not rfl) ?_
     refine awp_cond _ rfl (fun h13 => ?_) (fun h13 => ?_)
     ·replace H := ift h13 H
      refine awp_seq ?_
      refine awp_plain hN rfl ?_
      refine qe rfl ?_
      refine qe rfl ?_
      refine awp_ret ?_
      replace H := retl H hq4
      cases H
      show Cv _ _ _ _
      refine cv_in ?_
      show Cv _ _ _ _
      refine cv_in ?_
      show Cv _ _ _ _
      refine cv_in ?_
      exact ⟨trivial, .inl rfl, .inl rfl, trivial⟩
     ·replace H := iff_ h13 H
      refine awp_skip ?_
      refine awp_joinE (ι := (List Int)) (fun i => [(0, .dat (vstr s1)), (4, .ptr 1 0), (5, .dat (vint i2))]) (fun i => [(1, .box none 80 [.nptr 1, .row 6 i.length]), (6, .row 5 1 (List.map C_uint8 i))]) (fun i => message_normalUnits_J4 i2 i = some q4) (fun i => rfl) ?_ ?_
      ·refine awp_cv ?_
       refine awp_seq ?_
       refine awp_plain hN rfl ?_
       refine qd rfl ?_
       refine qd rfl ?_
       obtain ⟨r14, h15, H⟩ := bnd H
       refine seq_run0 (stp_call (k_message_unit s1 i2 r14 h15) ⟨.inl rfl, .inl rfl, trivial⟩) ?_
       refine qe rfl ?_
       refine awp_seq ?_
       refine awp_plain hN rfl ?_
       refine qd rfl ?_
       obtain ⟨r16, h17, H⟩ := bnd H
       refine seq_run0 (stp_call (k_message_isFree r14 r16 h17) ⟨.inl rfl, trivial⟩) ?_
       refine awp_cond _ rfl (fun h18 => ?_) (fun h18 => ?_)
       ·replace H := ift h18 H
        refine awp_plain hN rfl ?_
        refine qd rfl ?_
        obtain ⟨r19, h20, H⟩ := bnd H
        refine seq_callG (rn [(0, 1), (1, 2), (900, 4)]) [(0, _, _, some _), (1, _, _, none)] [(900, _)] (kb_strings_Builder_WriteByte l3 r14 r19 h20) ⟨rfl, rfl, rfl, trivial⟩ ⟨.inl (.inl rfl), .inl (.inl rfl), trivial⟩ ⟨⟨⟨rfl, rfl⟩, trivial⟩, ⟨⟨rfl, rfl, rfl⟩, trivial⟩, trivial⟩ rfl ?_
        refine seq_end ?_
        show Cv _ _ _ _
        refine cv_ren (rn [(4, 6)]) [(0, .dat (vstr s1)), (4, .ptr 1 0), (5, .dat (vint i2))] [(1, .box none 80 [.nptr 1, .row 4 r19.2.length]), (4, .row 5 1 (List.map C_uint8 r19.2))] ⟨rfl, rfl, rfl, trivial⟩ ⟨rfl, rfl, trivial⟩ rfl rfl ?_
        exact ⟨r19.2, H, ⟨rfl, rfl, rfl, trivial⟩, ⟨rfl, rfl, trivial⟩⟩
       ·replace H := iff_ h18 H
        refine awp_plain hN rfl ?_
        refine qd rfl ?_
        obtain ⟨r21, h22, H⟩ := bnd H
        refine seq_run0 (stp_call (k_message_percent r14 r21 h22) ⟨.inl rfl, trivial⟩) ?_
        obtain ⟨r23, h24, H⟩ := bnd H
        refine seq_callG (rn [(0, 1), (1, 2), (900, 5)]) [(0, _, _, some _), (1, _, _, none)] [(900, _)] (kb_strings_Builder_WriteString l3 r21 r23 h24) ⟨rfl, rfl, rfl, trivial⟩ ⟨.inl (.inl rfl), .inl (.inl rfl), trivial⟩ ⟨⟨⟨rfl, rfl⟩, trivial⟩, ⟨⟨rfl, rfl, rfl⟩, trivial⟩, trivial⟩ rfl ?_
        refine seq_end ?_
        show Cv _ _ _ _
        refine cv_ren (rn [(5, 6)]) [(0, .dat (vstr s1)), (4, .ptr 1 0), (5, .dat (vint i2))] [(1, .box none 80 [.nptr 1, .row 5 r23.2.2.length]), (5, .row 5 1 (List.map C_uint8 r23.2.2))] ⟨rfl, rfl, rfl, trivial⟩ ⟨rfl, rfl, trivial⟩ rfl rfl ?_
        exact ⟨r23.2.2, H, ⟨rfl, rfl, rfl, trivial⟩, ⟨rfl, rfl, trivial⟩⟩
      ·rintro l25 H
       replace H : message_normalUnits_J4 i2 l25 = some q4 := H
       unfold message_normalUnits_J4 at H
       refine awp_plain hN rfl ?_
       refine qd rfl ?_
       refine seq_run0 (stp_wrap _ rfl rfl (.inl ⟨rfl, rfl⟩)) ?_
       refine qe rfl ?_
       refine seq_end ?_
       show Cv _ _ _ _
       refine cv_ren (rn [(6, 7)]) [(0, .dat (vstr s1)), (4, .ptr 1 0), (5, .dat (vint (wr (i2 + 2))))] [(1, .box none 80 [.nptr 1, .row 6 l25.length]), (6, .row 5 1 (List.map C_uint8 l25))] ⟨rfl, rfl, rfl, trivial⟩ ⟨rfl, rfl, trivial⟩ rfl rfl ?_
       exact ⟨(wr (i2 + 2), l25), H, ⟨rfl, rfl, rfl, trivial⟩, ⟨rfl, rfl, trivial⟩⟩
   ·rintro ⟨i26, l27⟩ H
    replace H : message_normalUnits_J3 i26 l27 = some q4 := H
    unfold message_normalUnits_J3 at H
    refine awp_plain hN rfl ?_
    refine qd rfl ?_
    refine seq_run0 (stp_wrap _ rfl rfl (.inl ⟨rfl, rfl⟩)) ?_
    refine qe rfl ?_
    refine seq_end ?_
    show Cv _ _ _ _
    refine cv_ren (rn [(7, 2)]) [(0, .dat (vstr s1)), (4, .ptr 1 0), (5, .dat (vint (wr (i26 + 1))))] [(1, .box none 80 [.nptr 1, .row 7 l27.length]), (7, .row 5 1 (List.map C_uint8 l27))] ⟨rfl, rfl, rfl, trivial⟩ ⟨rfl, rfl, trivial⟩ rfl rfl ?_
    exact ⟨_, backl H, ⟨rfl, rfl, rfl, trivial⟩, ⟨rfl, rfl, trivial⟩⟩
  ·replace H := iff_ h5 H
   refine awp_exit ?_
   replace H := outl H hq4
   show Cv _ _ _ _
   refine cv_in ?_
   show Cv _ _ _ _
   refine cv_in ?_
   exact ⟨l3, H, ⟨rfl, trivial⟩, ⟨rfl, rfl, trivial⟩⟩
 ·rintro l28 H
  replace H : message_normalUnits_J1 l28 = some r := H
  unfold message_normalUnits_J1 at H
  refine awp_seq ?_
  refine awp_plain hN rfl ?_
  obtain ⟨h29, H⟩ := gif H
  refine seq_callG (rn [(0, 1), (1, 2)]) [(0, _, _, none), (1, _, _, none)] [] (kbs_String h29 (C := C_uint8) (fun _ => rfl)) ⟨rfl, rfl, trivial⟩ ⟨.inl (.inl rfl), trivial⟩ ⟨⟨⟨rfl, rfl⟩, trivial⟩, ⟨⟨rfl, rfl, rfl⟩, trivial⟩, trivial⟩ rfl ?_
  refine qe rfl ?_
  refine qe rfl ?_
  refine awp_ret ?_
  cases H
  exact ⟨trivial, .inl rfl, .inl rfl, trivial⟩
theorem k_message_NormalPath (s1 : Bs) (r : (Bs × Int)) (H : m_message_NormalPath s1 = some r) : Fn Tryz.prog 58 [vstr s1] (resOf [vstr r.1, vint r.2]) := by
 refine ⟨by kernel_rfl, pure_of (us := [vstr r.1, vint r.2]) Tryz.func58 rfl rfl rfl rfl fun X hN => ?_⟩
 unfold m_message_NormalPath at H
 refine awp_seq ?_
 refine awp_plain hN rfl ?_
 refine qe rfl ?_
 refine qe rfl ?_
 refine awp_seq ?_
 refine awp_seq ?_
 refine awp_plain hN rfl ?_
 refine qd rfl ?_
 obtain ⟨r2, h3, H⟩ := bnd H
 refine seq_run0 (stp_call (k_message_PathFault s1 r2 h3) ⟨.inl rfl, trivial⟩) ?_
 refine qe rfl ?_
 refine awp_seq ?_
 refine awp_plain hN rfl ?_
 refine qd rfl ?_
 refine seq_run0 (stp_neq rfl rfl) ?_
 refine awp_cond _ rfl (fun h4 => ?_) (fun h4 => ?_)
 ·replace H := ift h4 H
  refine awp_seq ?_
  refine awp_plain hN rfl ?_
  refine qd rfl ?_
  refine qe rfl ?_
  refine qe rfl ?_
  refine awp_ret ?_
  cases H
  exact ⟨trivial, .inl rfl, .inl rfl, trivial⟩
 ·replace H := iff_ h4 H
  refine awp_skip ?_
  refine awp_seq ?_
  refine awp_plain hN rfl ?_
  refine qd rfl ?_
  obtain ⟨r5, h6, H⟩ := bnd H
  refine seq_run0 (stp_call (k_message_normalUnits s1 r5 h6) ⟨.inl rfl, trivial⟩) ?_
  refine qd rfl ?_
  refine seq_run0 (stp_ext rfl rfl) ?_
  refine seq_run0 (stp_ext rfl rfl) ?_
  refine qe rfl ?_
  refine qe rfl ?_
  refine awp_seq ?_
  refine awp_seq ?_
  refine awp_plain hN rfl ?_
  refine qd rfl ?_
  refine seq_run0 (stp_not rfl) ?_
  refine awp_cond _ rfl (fun h7 => ?_) (fun h7 => ?_)
  ·replace H := ift h7 H
   refine awp_seq ?_
   refine awp_plain hN rfl ?_
   refine qe rfl ?_
   refine qe rfl ?_
   refine awp_ret ?_
   cases H
   exact ⟨trivial, .inl rfl, .inl rfl, trivial⟩
  ·replace H := iff_ h7 H
   refine awp_skip ?_
   refine awp_seq ?_
   refine awp_plain hN rfl ?_
   refine qe rfl ?_
   refine awp_seq ?_
   refine awp_plain hN rfl ?_
   refine qd rfl ?_
   obtain ⟨l8, h9, H⟩ := bnd H
   refine seq_run0 (t_subS tyU9 rfl rfl rfl h9) ?_
   obtain ⟨r10, h11, H⟩ := bnd H
   refine seq_run0 (stp_call (k_strings_Split l8 [47] r10 h11) ⟨.inl rfl, .inl rfl, trivial⟩) ?_
   refine qe rfl ?_
   refine awp_seq ?_
   refine awp_seq ?_
   refine awp_plain hN rfl ?_
   refine qd rfl ?_
   refine seq_run0 (t_len tyU31 rfl) ?_
   refine qd rfl ?_
   refine awp_block ?_
   refine awp_nilrow 6 1 9 1 rfl rfl rfl ?_
   obtain ⟨h15, H⟩ := gif H
   refine awp_forL (fun (k13 : Nat) (s : (List Bs)) => [(6, .row 1 s.length), (7, .dat (vlst (List.map C_string r10))), (25, .dat (vlst (List.map C_string r10))), (26, .dat (vint (r10.length : Int))), (27, .dat (vint (k13 : Int)))]) (fun (k13 : Nat) (s : (List Bs)) => [(1, .row 9 1 (List.map C_string s))]) [] H ⟨rfl, rfl, rfl, rfl, rfl, trivial⟩ ⟨rfl, trivial⟩ (fun _ _ => rfl) ?_ ?_
   ·rintro l12 H
    replace H : message_NormalPath_E1 l12 = some r := H
    unfold message_NormalPath_E1 at H
    refine awp_seq ?_
    refine awp_plain hN rfl ?_
    refine seq_run0 (stp_lss rfl rfl) ?_
    refine awp_seq ?_
    refine awp_cond _ rfl (fun h => (lt_t h).elim) (fun h => ?_)
    refine awp_exit ?_
    refine awp_seq ?_
    refine t_freeze 6 1 rfl rfl rfl ?_
    refine awp_plain hN rfl ?_
    refine qd rfl ?_
    obtain ⟨r17, h18, H⟩ := bnd H
    refine seq_run0 (stp_call (k_strings_Join l12 [47] r17 h18) ⟨.inl rfl, .inl rfl, trivial⟩) ?_
    obtain ⟨h19, H⟩ := gif H
    refine seq_run0 (stp_sadd rfl rfl (Nat.le_trans h19 (by decide))) ?_
    refine qe rfl ?_
    refine qe rfl ?_
    refine awp_ret ?_
    cases H
    exact ⟨trivial, .inl rfl, .inl rfl, trivial⟩
   ·rintro k13 x16 l12 q14 h20 h21 H hq14
    replace H : message_NormalPath_L1 r10 k13 x16 l12 = some q14 := H
    unfold message_NormalPath_L1 at H
    refine awp_cv ?_
    refine awp_seq ?_
    refine awp_plain hN rfl ?_
    refine seq_run0 (stp_lss rfl rfl) ?_
    refine awp_seq ?_
    refine awp_cond _ rfl (fun h => ?_) (fun h => (lt_f h20 h).elim)
    refine awp_skip ?_
    refine awp_joinE (ι := (List Bs)) (fun i => [(6, .row 4 i.length), (7, .dat (vlst (List.map C_string r10))), (25, .dat (vlst (List.map C_string r10))), (26, .dat (vint (r10.length : Int))), (27, .dat (vint (k13 : Int)))]) (fun i => [(4, .row 9 1 (List.map C_string i))]) (fun i => message_NormalPath_J2 i = some q14) (fun i => rfl) ?_ ?_
    ·refine awp_cv ?_
     refine awp_block ?_
     refine awp_seq ?_
     refine awp_plain hN rfl ?_
     refine qd rfl ?_
     refine seq_run0 (t_idx tyE31 (fun _ => rfl) rfl rfl h21) ?_
     refine seq_run0 (stp_loadE1 tyS9 rfl (map_at h21) rfl) ?_
     refine qe rfl ?_
     refine qe rfl ?_
     refine awp_joinE (ι := (List Bs)) (fun i => [(6, .row 3 i.length), (7, .dat (vlst (List.map C_string r10))), (8, .dat (vint (k13 : Int))), (25, .dat (vlst (List.map C_string r10))), (26, .dat (vint (r10.length : Int))), (27, .dat (vint (k13 : Int)))]) (fun i => [(3, .row 9 1 (List.map C_string i))]) (fun i => message_NormalPath_J3 r10 k13 i = some q14) (fun i => rfl) ?_ ?_
     ·refine awp_cv ?_
      refine awp_seq ?_
      refine awp_plain hN rfl ?_
      refine qd rfl ?_
      refine awp_block ?_
      refine awp_seq ?_
      refine awp_plain hN rfl ?_
      refine seq_run0 (stp_seql rfl rfl) ?_
      refine qe rfl ?_
      refine awp_cond _ rfl (fun h22 => ?_) (fun h22 => ?_)
      ·replace H := ift h22 H
       refine awp_skip ?_
       show Cv _ _ _ _
       refine cv_ren (rn [(1, 3)]) [(6, .row 1 l12.length), (7, .dat (vlst (List.map C_string r10))), (8, .dat (vint (k13 : Int))), (25, .dat (vlst (List.map C_string r10))), (26, .dat (vint (r10.length : Int))), (27, .dat (vint (k13 : Int)))] [(1, .row 9 1 (List.map C_string l12))] ⟨rfl, rfl, rfl, rfl, rfl, rfl, trivial⟩ ⟨rfl, trivial⟩ rfl rfl ?_
       exact ⟨l12, H, ⟨rfl, rfl, rfl, rfl, rfl, rfl, trivial⟩, ⟨rfl, trivial⟩⟩
      ·replace H := iff_ h22 H
       refine awp_seq ?_
       refine awp_plain hN rfl ?_
       refine seq_run0 (stp_seql rfl rfl) ?_
       refine qe rfl ?_
       refine awp_cond _ rfl (fun h23 => ?_) (fun h23 => ?_)
       ·replace H := ift h23 H
        refine awp_plain hN rfl ?_
        refine seq_run0 (stp_move (.row _ _) rfl) ?_
        refine seq_run0 (stp_move (.row _ _) rfl) ?_
        refine seq_run1 (t_lenR tyU31 rfl rfl) rfl ?_
        refine seq_run0 (stp_wrap _ rfl rfl (.inr (.inl ⟨rfl, rfl⟩))) ?_
        refine seq_run0 (stp_max rfl rfl) ?_
        obtain ⟨h24, H⟩ := gif H
        refine seq_run3 (t_cut (C := C_string) 2 tyE31 rfl rfl rfl h24) rfl rfl ?_
        refine seq_run0 (stp_assign (.row _ _) rfl) ?_
        refine seq_end ?_
        show Cv _ _ _ _
        refine cv_ren (rn [(2, 3)]) [(6, .row 2 ((max (wr ((l12.length : Int) - 1)) 0).toNat)), (7, .dat (vlst (List.map C_string r10))), (8, .dat (vint (k13 : Int))), (25, .dat (vlst (List.map C_string r10))), (26, .dat (vint (r10.length : Int))), (27, .dat (vint (k13 : Int)))] [(2, .row 9 1 (List.map C_string (l12.take (max (wr ((l12.length : Int) - 1)) 0).toNat)))] ⟨rfl, rfl, rfl, rfl, rfl, rfl, trivial⟩ ⟨rfl, trivial⟩ rfl rfl ?_
        exact ⟨(l12.take (max (wr ((l12.length : Int) - 1)) 0).toNat), H, ⟨congrArg (Slot.row 3) ((cut_len h24)).symm, rfl, rfl, rfl, rfl, rfl, trivial⟩, ⟨rfl, trivial⟩⟩
       ·replace H := iff_ h23 H
        refine awp_seq ?_
        refine awp_plain hN rfl ?_
        refine seq_run0 (stp_move (.row _ _) rfl) ?_
        refine qd rfl ?_
        refine seq_run0 (stp_dat (u' := vlst (List.map C_string [x16])) (stp_lit [[_]] tyL31 ⟨rfl, .inl ⟨_, rfl, rfl, rfl⟩, rfl, trivial⟩ rfl rfl) rfl) ?_
        obtain ⟨h25, H⟩ := gif H
        refine seq_run2 (t_app tyL31 (fun _ => rfl) rfl rfl rfl ⟨by simp, by first | (simp; done) | simpa using h25⟩ rfl) rfl ?_
        refine seq_run0 (stp_assign (.row _ _) rfl) ?_
        refine awp_exit ?_
        show Cv _ _ _ _
        refine cv_in ?_
        show Cv _ _ _ _
        refine cv_ren (rn [(1, 4)]) [(6, .row 1 ((l12 ++ [x16]).length)), (7, .dat (vlst (List.map C_string r10))), (25, .dat (vlst (List.map C_string r10))), (26, .dat (vint (r10.length : Int))), (27, .dat (vint (k13 : Int)))] [(1, .row 9 1 (List.map C_string (l12 ++ [x16])))] ⟨rfl, rfl, rfl, rfl, rfl, trivial⟩ ⟨rfl, trivial⟩ rfl rfl ?_
        exact ⟨(l12 ++ [x16]), H, ⟨rfl, rfl, rfl, rfl, rfl, trivial⟩, ⟨rfl, trivial⟩⟩
     ·rintro out26 H
      replace H : message_NormalPath_J3 r10 k13 out26 = some q14 := H
      unfold message_NormalPath_J3 at H
      refine awp_seq ?_
      refine awp_plain hN rfl ?_
      refine qd rfl ?_
      refine qd rfl ?_
      refine seq_run0 (t_len tyU31 rfl) ?_
      refine seq_run0 (stp_wrap _ rfl rfl (.inr (.inl ⟨rfl, rfl⟩))) ?_
      refine seq_run0 (stp_eql rfl rfl) ?_
      refine awp_cond _ rfl (fun h27 => ?_) (fun h27 => ?_)
      ·replace H := ift h27 H
       refine awp_plain hN rfl ?_
       refine seq_run0 (stp_move (.row _ _) rfl) ?_
       refine seq_run0 (stp_dat (u' := vlst (List.map C_string [[]])) (stp_lit [[_]] tyL31 ⟨rfl, .inl ⟨_, rfl, rfl, rfl⟩, rfl, trivial⟩ rfl rfl) rfl) ?_
       obtain ⟨h28, H⟩ := gif H
       refine seq_run2 (t_app tyL31 (fun _ => rfl) rfl rfl rfl ⟨by simp, by first | (simp; done) | simpa using h28⟩ rfl) rfl ?_
       refine seq_run0 (stp_assign (.row _ _) rfl) ?_
       refine seq_end ?_
       show Cv _ _ _ _
       refine cv_ren (rn [(3, 4)]) [(6, .row 3 ((out26 ++ ([[]])).length)), (7, .dat (vlst (List.map C_string r10))), (25, .dat (vlst (List.map C_string r10))), (26, .dat (vint (r10.length : Int))), (27, .dat (vint (k13 : Int)))] [(3, .row 9 1 (List.map C_string (out26 ++ ([[]]))))] ⟨rfl, rfl, rfl, rfl, rfl, trivial⟩ ⟨rfl, trivial⟩ rfl rfl ?_
       exact ⟨(out26 ++ ([[]])), H, ⟨rfl, rfl, rfl, rfl, rfl, trivial⟩, ⟨rfl, trivial⟩⟩
      ·replace H := iff_ h27 H
       refine awp_skip ?_
       show Cv _ _ _ _
       refine cv_ren (rn [(3, 4)]) [(6, .row 3 out26.length), (7, .dat (vlst (List.map C_string r10))), (25, .dat (vlst (List.map C_string r10))), (26, .dat (vint (r10.length : Int))), (27, .dat (vint (k13 : Int)))] [(3, .row 9 1 (List.map C_string out26))] ⟨rfl, rfl, rfl, rfl, rfl, trivial⟩ ⟨rfl, trivial⟩ rfl rfl ?_
       exact ⟨out26, H, ⟨rfl, rfl, rfl, rfl, rfl, trivial⟩, ⟨rfl, trivial⟩⟩
    ·rintro out29 H
     replace H : message_NormalPath_J2 out29 = some q14 := H
     unfold message_NormalPath_J2 at H
     refine awp_plain hN rfl ?_
     refine seq_run0 (stp_add rfl rfl (by omega)) ?_
     refine qd rfl ?_
     refine seq_end ?_
     show Cv _ _ _ _
     refine cv_ren (rn [(4, 1)]) [(6, .row 4 out29.length), (7, .dat (vlst (List.map C_string r10))), (25, .dat (vlst (List.map C_string r10))), (26, .dat (vint (r10.length : Int))), (27, .dat (vint ((k13 : Int) + 1)))] [(4, .row 9 1 (List.map C_string out29))] ⟨rfl, rfl, rfl, rfl, rfl, trivial⟩ ⟨rfl, trivial⟩ rfl rfl ?_
     exact ⟨_, backl H, ⟨rfl, rfl, rfl, rfl, rfl, trivial⟩, ⟨rfl, trivial⟩⟩
theorem k_gatelaw2_spoken  (r : (Bool)) (H : m_gatelaw2_spoken  = some r) : Fn Tryz.prog 13 [] (resOf [vbool r]) := by
 refine ⟨by kernel_rfl, pure_of (us := [vbool r]) Tryz.func13 rfl rfl rfl rfl fun X hN => ?_⟩
 unfold m_gatelaw2_spoken at H
 refine awp_seq ?_
 refine awp_plain hN rfl ?_
 refine qe rfl ?_
 refine awp_seq ?_
 refine awp_plain hN rfl ?_
 obtain ⟨r1, h2, H⟩ := bnd H
 refine seq_run0 (stp_call (k_message_NormalPath [47, 97, 47, 46, 46, 47, 98] r1 h2) ⟨.inl rfl, trivial⟩) ?_
 refine qd rfl ?_
 refine seq_run0 (stp_ext rfl rfl) ?_
 refine seq_run0 (stp_ext rfl rfl) ?_
 refine qe rfl ?_
 refine qe rfl ?_
 refine awp_seq ?_
 refine awp_plain hN rfl ?_
 refine qd rfl ?_
 refine seq_run0 (stp_eql rfl rfl) ?_
 refine qd rfl ?_
 refine seq_aT rfl rfl (fun hc => stp_move (.dat _) rfl) ?_
 refine seq_aT rfl rfl (fun hc => stp_seql (cnd (c := (decide (r1.2 = 0))) hc) rfl) ?_
 refine seq_run0 (stp_pick_and rfl (fun hb => (cnd (c := (decide (r1.2 = 0))) hb)) rfl) ?_
 refine qe rfl ?_
 refine awp_ret ?_
 cases H
 exact ⟨trivial, .inl rfl, trivial⟩
theorem k_gatelaw2_RequestsForwarded (v1 : (List Int)) (r : (Bool)) (H : m_gatelaw2_RequestsForwarded v1 = some r) : Fn Tryz.prog 3 [vlst (List.map C_int v1)] (resOf [vbool r]) := by
 refine ⟨by kernel_rfl, pure_of (us := [vbool r]) Tryz.func3 rfl rfl rfl rfl fun X hN => ?_⟩
 unfold m_gatelaw2_RequestsForwarded at H
 refine awp_seq ?_
 refine awp_plain hN rfl ?_
 refine qe rfl ?_
 refine awp_seq ?_
 refine awp_plain hN rfl ?_
 refine qd rfl ?_
 refine seq_run0 (stp_dat (u' := vagg (C_gatemake_Stream (S_gatemake_Stream.mk v1 0))) (stp_build [(0, [vlst (List.map C_int v1)])] tyZ25 tyP25 rfl ⟨rfl, .inl ⟨_, rfl, rfl, rfl⟩, rfl, trivial⟩) rfl) ?_
 refine seq_run2 (stp_boxA 1 rfl) rfl ?_
 refine seq_run0 (stp_assign (.ptr _ _) rfl) ?_
 refine awp_seq ?_
 refine awp_plain hN rfl ?_
 refine seq_run0 (stp_move (.ptr _ _) rfl) ?_
 obtain ⟨r2, h3, H⟩ := bnd H
 refine seq_run2 (stp_imp (k_gatemake_Stream_Request (S_gatemake_Stream.mk v1 0) r2 h3) rfl trivial rfl) rfl ?_
 refine seq_run0 (stp_move (.ptr _ _) rfl) ?_
 refine seq_run0 (stp_dat (u' := vlst (List.map C_string [[103, 119], [103, 119], [103, 119, 50], [98], [], [97, 32, 98]])) (stp_lit [[_], [_], [_], [_], [_], [_]] tyL31 ⟨rfl, .inl ⟨_, rfl, rfl, rfl⟩, rfl, rfl, .inl ⟨_, rfl, rfl, rfl⟩, rfl, rfl, .inl ⟨_, rfl, rfl, rfl⟩, rfl, rfl, .inl ⟨_, rfl, rfl, rfl⟩, rfl, rfl, .inl ⟨_, rfl, rfl, rfl⟩, rfl, rfl, .inl ⟨_, rfl, rfl, rfl⟩, rfl, trivial⟩ rfl rfl) rfl) ?_
 obtain ⟨r4, h5, H⟩ := bnd H
 refine seq_run2 (stp_imp (k_gatemake_Stream_Some r2.2 ([[103, 119], [103, 119], [103, 119, 50], [98], [], [97, 32, 98]]) r4 h5) rfl ⟨.inl rfl, trivial⟩ rfl) rfl ?_
 refine seq_run2 (stp_alloc 2 tyZ28 rfl) rfl ?_
 refine seq_run2 (stp_storeW tyS28 rfl rfl rfl rfl) rfl ?_
 refine qe rfl ?_
 refine awp_seq ?_
 refine awp_plain hN rfl ?_
 refine qe rfl ?_
 refine awp_seq ?_
 refine awp_seq ?_
 refine awp_plain hN rfl ?_
 refine seq_run0 (stp_move (.ptr _ _) rfl) ?_
 obtain ⟨r6, h7, H⟩ := bnd H
 refine seq_run2 (stp_imp (k_gatemake_Stream_Range r4.2 0 3 r6 h7) rfl ⟨.inl rfl, .inl rfl, trivial⟩ rfl) rfl ?_
 refine qd rfl ?_
 refine awp_block ?_
 refine awp_nilrow 6 3 9 1 rfl rfl rfl ?_
 obtain ⟨h13, H⟩ := gif H
 refine awp_rng (fun (k11 : Nat) (s : (List Int) × Int × (List Bs)) => [(3, .ptr 1 0), (4, .ptr 2 0), (5, .dat (vstr r4.1)), (6, .row 3 s.2.2.length), (24, .dat (vint r6.1)), (25, .dat (vint (k11 : Int)))]) (fun (k11 : Nat) (s : (List Int) × Int × (List Bs)) => [(1, .box none 25 [.dat (vlst (List.map C_int s.1)), .dat (vint s.2.1)]), (2, .box none 28 [.dat (vint r2.1.At), .dat (vstr r2.1.Method), .dat (vstr r2.1.Host), .dat (vstr r2.1.Path), .dat (vstr r2.1.Query), .dat (vstr r2.1.From), .dat (vlst (List.map C_api_Header r2.1.Headers)), .dat (vstr r2.1.Body)]), (3, .row 9 1 (List.map C_string s.2.2))]) (r6.2.L, r6.2.at_, []) H ⟨rfl, rfl, rfl, rfl, rfl, rfl, trivial⟩ ⟨rfl, rfl, rfl, trivial⟩ (fun _ _ => rfl) ?_ ?_
 ·rintro ⟨c8, c9, l10⟩ H
  replace H : gatelaw2_RequestsForwarded_E1 r2 r4 c8 c9 l10 = some r := H
  unfold gatelaw2_RequestsForwarded_E1 at H
  refine awp_seq ?_
  refine awp_plain hN rfl ?_
  refine seq_run0 (stp_lss rfl rfl) ?_
  refine awp_seq ?_
  refine awp_cond _ rfl (fun h => (lt_tI h).elim) (fun h => ?_)
  refine awp_exit ?_
  refine awp_joinE (ι := (List Bs)) (fun i => [(4, .ptr 2 0), (5, .dat (vstr r4.1)), (6, .row 3 i.length)]) (fun i => [(2, .box none 28 [.dat (vint r2.1.At), .dat (vstr r2.1.Method), .dat (vstr r2.1.Host), .dat (vstr r2.1.Path), .dat (vstr r2.1.Query), .dat (vstr r2.1.From), .dat (vlst (List.map C_api_Header r2.1.Headers)), .dat (vstr r2.1.Body)]), (3, .row 9 1 (List.map C_string i))]) (fun i => gatelaw2_RequestsForwarded_J2 r2 r4 i = some r) (fun i => rfl) ?_ ?_
  ·skip
   refine awp_seq ?_
   refine awp_plain hN rfl ?_
   refine seq_run0 (stp_move (.ptr _ _) rfl) ?_
   obtain ⟨r14, h15, H⟩ := bnd H
   refine seq_run2 (stp_imp (k_gatemake_Stream_Flip (S_gatemake_Stream.mk c8 c9) 15 r14 h15) rfl ⟨.inl rfl, trivial⟩ rfl) rfl ?_
   refine awp_cond _ rfl (fun h16 => ?_) (fun h16 => ?_)
   ·replace H := ift h16 H
    refine awp_plain hN rfl ?_
    refine seq_run0 (stp_move (.row _ _) rfl) ?_
    refine seq_run0 (stp_move (.ptr _ _) rfl) ?_
    refine seq_run0 (stp_dat (u' := vlst (List.map C_string [[], [32, 120]])) (stp_lit [[_], [_]] tyL31 ⟨rfl, .inl ⟨_, rfl, rfl, rfl⟩, rfl, rfl, .inl ⟨_, rfl, rfl, rfl⟩, rfl, trivial⟩ rfl rfl) rfl) ?_
    obtain ⟨r17, h18, H⟩ := bnd H
    refine seq_run2 (stp_imp (k_gatemake_Stream_Some r14.2 ([[], [32, 120]]) r17 h18) rfl ⟨.inl rfl, trivial⟩ rfl) rfl ?_
    refine seq_run0 (stp_dat (u' := vlst (List.map C_string [r17.1])) (stp_lit [[_]] tyL31 ⟨rfl, .inl ⟨_, rfl, rfl, rfl⟩, rfl, trivial⟩ rfl rfl) rfl) ?_
    obtain ⟨h19, H⟩ := gif H
    refine seq_run2 (t_app tyL31 (fun _ => rfl) rfl rfl rfl ⟨by simp, by first | (simp; done) | simpa using h19⟩ rfl) rfl ?_
    refine seq_run0 (stp_assign (.row _ _) rfl) ?_
    exact ⟨(l10 ++ [r17.1]), H, ⟨rfl, rfl, rfl, trivial⟩, ⟨rfl, rfl, trivial⟩⟩
   ·replace H := iff_ h16 H
    refine awp_skip ?_
    exact ⟨l10, H, ⟨rfl, rfl, rfl, trivial⟩, ⟨rfl, rfl, trivial⟩⟩
  ·rintro v20 H
   replace H : gatelaw2_RequestsForwarded_J2 r2 r4 v20 = some r := H
   unfold gatelaw2_RequestsForwarded_J2 at H
   refine awp_seq ?_
   refine awp_plain hN rfl ?_
   refine seq_run1 (stp_loadA tyS28 rfl rfl rfl) rfl ?_
   refine qd rfl ?_
   obtain ⟨r21, h22, H⟩ := bnd H
   refine seq_run0 (stp_call (k_message_Forward r2.1 r4.1 r21 h22) ⟨.inl rfl, .inl rfl, trivial⟩) ?_
   refine qd rfl ?_
   refine seq_run0 (stp_ext rfl rfl) ?_
   refine seq_run0 (stp_ext rfl rfl) ?_
   refine seq_run2 (stp_alloc 4 tyZ28 rfl) rfl ?_
   refine seq_run2 (stp_storeW tyS28 rfl rfl rfl rfl) rfl ?_
   refine qe rfl ?_
   refine awp_seq ?_
   refine awp_plain hN rfl ?_
   refine seq_run1 (stp_loadA tyS28 rfl rfl rfl) rfl ?_
   refine qd rfl ?_
   obtain ⟨r23, h24, H⟩ := bnd H
   refine seq_run0 (stp_call (k_gateref2_ForwardOf r2.1 r4.1 r23 h24) ⟨.inl rfl, .inl rfl, trivial⟩) ?_
   refine qd rfl ?_
   refine seq_run0 (stp_ext rfl rfl) ?_
   refine seq_run0 (stp_ext rfl rfl) ?_
   refine seq_run2 (stp_alloc 5 tyZ28 rfl) rfl ?_
   refine seq_run2 (stp_storeW tyS28 rfl rfl rfl rfl) rfl ?_
   refine qe rfl ?_
   refine awp_seq ?_
   refine t_freeze 6 3 rfl rfl rfl ?_
   refine awp_plain hN rfl ?_
   refine seq_run1 (stp_loadA tyS28 rfl rfl rfl) rfl ?_
   refine qd rfl ?_
   obtain ⟨r25, h26, H⟩ := bnd H
   refine seq_run0 (stp_call (k_message_Client r2.1 v20 r25 h26) ⟨.inl rfl, .inl rfl, trivial⟩) ?_
   refine qd rfl ?_
   refine seq_run0 (stp_ext rfl rfl) ?_
   refine seq_run0 (stp_ext rfl rfl) ?_
   refine qe rfl ?_
   refine qe rfl ?_
   refine awp_seq ?_
   refine awp_plain hN rfl ?_
   refine seq_run1 (stp_loadA tyS28 rfl rfl rfl) rfl ?_
   refine qd rfl ?_
   obtain ⟨r27, h28, H⟩ := bnd H
   refine seq_run0 (stp_call (k_gateref2_ClientOf r2.1 v20 r27 h28) ⟨.inl rfl, .inl rfl, trivial⟩) ?_
   refine qd rfl ?_
   refine seq_run0 (stp_ext rfl rfl) ?_
   refine seq_run0 (stp_ext rfl rfl) ?_
   refine qe rfl ?_
   refine qe rfl ?_
   refine awp_joinE (ι := Bool) (fun i => [(2, .dat (vbool i))]) (fun i => []) (fun i => gatelaw2_RequestsForwarded_J3 i = some r) (fun i => rfl) ?_ ?_
   ·skip
    refine awp_plain hN rfl ?_
    refine seq_run1 (stp_loadA tyS28 rfl rfl rfl) rfl ?_
    refine seq_run1 (stp_loadA tyS28 rfl rfl rfl) rfl ?_
    obtain ⟨r29, h30, H⟩ := bnd H
    refine seq_run0 (stp_call (k_gateref2_SameRequest r21.1 r23.1 r29 h30) ⟨.inl rfl, .inl rfl, trivial⟩) ?_
    refine qd rfl ?_
    refine seq_split (j := 3) rfl rfl (fun h31 => ?_) (fun h31 => ?_) rfl
    ·have h32 := un1 h31
     replace H := ift h32 H
     refine seq_g0 rfl rfl h31 (stp_move (.dat _) rfl) ?_
     refine seq_g0 rfl rfl h31 (stp_move (.dat _) rfl) ?_
     refine seq_g0 rfl rfl h31 (stp_eql rfl rfl) ?_
     refine seq_run0 (stp_pick_t rfl (bTT h32) rfl) ?_
     refine qd rfl ?_
     refine seq_split (j := 8) rfl rfl (fun h33 => ?_) (fun h33 => ?_) rfl
     ·have h34 := un1 h33
      replace H := ift h34 H
      refine seq_g0 rfl rfl h33 (stp_move (.dat _) rfl) ?_
      refine seq_g0 rfl rfl h33 (stp_move (.dat _) rfl) ?_
      refine seq_g0 rfl rfl h33 (stp_seql rfl rfl) ?_
      refine seq_run0 (stp_pick_t rfl (bTT h34) rfl) ?_
      refine qd rfl ?_
      refine seq_split (j := 13) rfl rfl (fun h35 => ?_) (fun h35 => ?_) rfl
      ·have h36 := un1 h35
       replace H := ift h36 H
       refine seq_g0 rfl rfl h35 (stp_move (.dat _) rfl) ?_
       refine seq_g0 rfl rfl h35 (stp_move (.dat _) rfl) ?_
       refine seq_g0 rfl rfl h35 (stp_eql rfl rfl) ?_
       refine seq_run0 (stp_pick_t rfl (bTT h36) rfl) ?_
       refine qd rfl ?_
       refine seq_split (j := 18) rfl rfl (fun h37 => ?_) (fun h37 => ?_) rfl
       ·have h38 := un1 h37
        replace H := ift h38 H
        obtain ⟨r39, h40, H⟩ := bnd H
        refine seq_g0 rfl rfl h37 (stp_call (k_gatelaw2_spoken  r39 h40) trivial) ?_
        refine seq_run0 (stp_pick_t rfl (bTT h38) rfl) ?_
        refine qe rfl ?_
        exact ⟨r39, H, ⟨rfl, trivial⟩, trivial⟩
       ·have h41 := un2 h37
        replace H := iff_ h41 H
        refine seq_skip rfl rfl h37 ?_
        refine seq_run0 (stp_pick_f rfl (bFF h41) rfl) ?_
        refine qe rfl ?_
        exact ⟨false, H, ⟨rfl, trivial⟩, trivial⟩
      ·have h42 := un2 h35
       replace H := iff_ h42 H
       refine seq_skip rfl rfl h35 ?_
       refine seq_skip rfl rfl h35 ?_
       refine seq_skip rfl rfl h35 ?_
       refine seq_run0 (stp_pick_f rfl (bFF h42) rfl) ?_
       refine qd rfl ?_
       refine seq_skip rfl rfl rfl ?_
       refine seq_run0 (stp_pick_f rfl rfl rfl) ?_
       refine qe rfl ?_
       exact ⟨false, H, ⟨rfl, trivial⟩, trivial⟩
     ·have h43 := un2 h33
      replace H := iff_ h43 H
      refine seq_skip rfl rfl h33 ?_
      refine seq_skip rfl rfl h33 ?_
      refine seq_skip rfl rfl h33 ?_
      refine seq_run0 (stp_pick_f rfl (bFF h43) rfl) ?_
      refine qd rfl ?_
      refine seq_skip rfl rfl rfl ?_
      refine seq_skip rfl rfl rfl ?_
      refine seq_skip rfl rfl rfl ?_
      refine seq_run0 (stp_pick_f rfl rfl rfl) ?_
      refine qd rfl ?_
      refine seq_skip rfl rfl rfl ?_
      refine seq_run0 (stp_pick_f rfl rfl rfl) ?_
      refine qe rfl ?_
      exact ⟨false, H, ⟨rfl, trivial⟩, trivial⟩
    ·have h44 := un2 h31
     replace H := iff_ h44 H
     refine seq_skip rfl rfl h31 ?_
     refine seq_skip rfl rfl h31 ?_
     refine seq_skip rfl rfl h31 ?_
     refine seq_run0 (stp_pick_f rfl (bFF h44) rfl) ?_
     refine qd rfl ?_
     refine seq_skip rfl rfl rfl ?_
     refine seq_skip rfl rfl rfl ?_
     refine seq_skip rfl rfl rfl ?_
     refine seq_run0 (stp_pick_f rfl rfl rfl) ?_
     refine qd rfl ?_
     refine seq_skip rfl rfl rfl ?_
     refine seq_skip rfl rfl rfl ?_
     refine seq_skip rfl rfl rfl ?_
     refine seq_run0 (stp_pick_f rfl rfl rfl) ?_
     refine qd rfl ?_
     refine seq_skip rfl rfl rfl ?_
     refine seq_run0 (stp_pick_f rfl rfl rfl) ?_
     refine qe rfl ?_
     exact ⟨false, H, ⟨rfl, trivial⟩, trivial⟩
   ·rintro v45 H
    replace H : gatelaw2_RequestsForwarded_J3 v45 = some r := H
    unfold gatelaw2_RequestsForwarded_J3 at H
    refine awp_ret ?_
    cases H
    exact ⟨trivial, .inl rfl, trivial⟩
 ·rintro k11 ⟨c8, c9, l10⟩ q12 h46 H hq12
  replace H : gatelaw2_RequestsForwarded_L1 k11 c8 c9 l10 = some q12 := H
  unfold gatelaw2_RequestsForwarded_L1 at H
  refine awp_seq ?_
  refine awp_plain hN rfl ?_
  refine seq_run0 (stp_lss rfl rfl) ?_
  refine awp_seq ?_
  refine awp_cond _ rfl (fun h => ?_) (fun h => (lt_fI h46 h).elim)
  refine awp_skip ?_
  refine awp_seq ?_
  refine awp_block ?_
  refine awp_plain hN rfl ?_
  refine seq_run0 (stp_move (.row _ _) rfl) ?_
  refine seq_run0 (stp_move (.ptr _ _) rfl) ?_
  refine seq_run0 (stp_dat (u' := vlst (List.map C_string [[49, 48, 46, 48, 46, 48, 46, 49], [57, 46, 57, 46, 57, 46, 57], [53, 46, 54, 46, 55, 46, 56], [49, 46, 50, 46, 51, 46, 52]])) (stp_lit [[_], [_], [_], [_]] tyL31 ⟨rfl, .inl ⟨_, rfl, rfl, rfl⟩, rfl, rfl, .inl ⟨_, rfl, rfl, rfl⟩, rfl, rfl, .inl ⟨_, rfl, rfl, rfl⟩, rfl, rfl, .inl ⟨_, rfl, rfl, rfl⟩, rfl, trivial⟩ rfl rfl) rfl) ?_
  obtain ⟨r47, h48, H⟩ := bnd H
  refine seq_run2 (stp_imp (k_gatemake_Stream_Some (S_gatemake_Stream.mk c8 c9) ([[49, 48, 46, 48, 46, 48, 46, 49], [57, 46, 57, 46, 57, 46, 57], [53, 46, 54, 46, 55, 46, 56], [49, 46, 50, 46, 51, 46, 52]]) r47 h48) rfl ⟨.inl rfl, trivial⟩ rfl) rfl ?_
  refine seq_run0 (stp_dat (u' := vlst (List.map C_string [r47.1])) (stp_lit [[_]] tyL31 ⟨rfl, .inl ⟨_, rfl, rfl, rfl⟩, rfl, trivial⟩ rfl rfl) rfl) ?_
  obtain ⟨h49, H⟩ := gif H
  refine seq_run2 (t_app tyL31 (fun _ => rfl) rfl rfl rfl ⟨by simp, by first | (simp; done) | simpa using h49⟩ rfl) rfl ?_
  refine seq_run0 (stp_assign (.row _ _) rfl) ?_
  refine awp_plain hN rfl ?_
  refine seq_run0 (stp_add rfl rfl (by omega)) ?_
  refine qd rfl ?_
  exact ⟨_, backl H, ⟨rfl, rfl, rfl, rfl, rfl, rfl, trivial⟩, ⟨rfl, rfl, rfl, trivial⟩⟩
end Go.Proofs.YtgjfcdcpiamikaaGreatDoor
