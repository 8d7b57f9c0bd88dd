/- Walks along the models. Printed by a program. -/
import Derived.Test.YtbejggfkfaibeaaGreatDoorYgw2
namespace Go.Proofs.YtbejggfkfaibeaaGreatDoor
open Go.RowKit
set_option linter.unusedVariables false
set_option maxRecDepth 20000
theorem k_message_NormalPath (s1 : Bs) (r : (Bs × Int)) (H : m_message_NormalPath s1 = some r) : Fn Tryz.prog 26 [vstr s1] (resOf [vstr r.1, vint r.2]) := by
  refine ⟨by kernel_rfl, pure_of (us := [vstr r.1, vint r.2]) Tryz.func26 rfl rfl rfl rfl fun X hN => ?_⟩
  unfold m_message_NormalPath at H
  refine awp_seq ?_
  refine awp_plain hN rfl ?_
  refine seq_run0 (stp_assign (.dat _) rfl) ?_
  refine seq_run0 (stp_assign (.dat _) rfl) ?_
  refine awp_seq ?_
  refine awp_seq ?_
  refine awp_plain hN rfl ?_
  refine seq_run0 (stp_move (.dat _) rfl) ?_
  obtain ⟨r2, h3, H⟩ := bnd H
  refine seq_run0 (stp_call (k_message_PathFault s1 r2 h3) ⟨.inl rfl, trivial⟩) ?_
  refine seq_run0 (stp_assign (.dat _) rfl) ?_
  refine awp_seq ?_
  refine awp_plain hN rfl ?_
  refine seq_run0 (stp_move (.dat _) rfl) ?_
  refine seq_run0 (stp_neq rfl rfl) ?_
  refine awp_cond _ rfl (fun h4 => ?_) (fun h4 => ?_)
  · replace H := ift h4 H
    refine awp_seq ?_
    refine awp_plain hN rfl ?_
    refine seq_run0 (stp_move (.dat _) rfl) ?_
    refine seq_run0 (stp_assign (.dat _) rfl) ?_
    refine seq_run0 (stp_assign (.dat _) rfl) ?_
    refine awp_ret ?_
    cases H
    exact ⟨trivial, .inl rfl, .inl rfl, trivial⟩
  · replace H := iff_ h4 H
    refine awp_skip ?_
    refine awp_seq ?_
    refine awp_plain hN rfl ?_
    refine seq_run0 (stp_move (.dat _) rfl) ?_
    obtain ⟨r5, h6, H⟩ := bnd H
    refine seq_run0 (stp_call (k_message_normalUnits s1 r5 h6) ⟨.inl rfl, trivial⟩) ?_
    refine seq_run0 (stp_move (.dat _) rfl) ?_
    refine seq_run0 (stp_ext rfl rfl) ?_
    refine seq_run0 (stp_ext rfl rfl) ?_
    refine seq_run0 (stp_assign (.dat _) rfl) ?_
    refine seq_run0 (stp_assign (.dat _) rfl) ?_
    refine awp_seq ?_
    refine awp_seq ?_
    refine awp_plain hN rfl ?_
    refine seq_run0 (stp_move (.dat _) rfl) ?_
    refine seq_run0 (stp_not rfl) ?_
    refine awp_cond _ rfl (fun h7 => ?_) (fun h7 => ?_)
    · replace H := ift h7 H
      refine awp_seq ?_
      refine awp_plain hN rfl ?_
      refine seq_run0 (stp_assign (.dat _) rfl) ?_
      refine seq_run0 (stp_assign (.dat _) rfl) ?_
      refine awp_ret ?_
      cases H
      exact ⟨trivial, .inl rfl, .inl rfl, trivial⟩
    · replace H := iff_ h7 H
      refine awp_skip ?_
      refine awp_seq ?_
      refine awp_plain hN rfl ?_
      refine seq_run0 (stp_assign (.dat _) rfl) ?_
      refine awp_seq ?_
      refine awp_plain hN rfl ?_
      refine seq_run0 (stp_move (.dat _) rfl) ?_
      obtain ⟨l8, h9, H⟩ := bnd H
      refine seq_run0 (t_subS tyU9 rfl rfl rfl h9) ?_
      obtain ⟨r10, h11, H⟩ := bnd H
      refine seq_run0 (stp_call (k_strings_Split l8 [47] r10 h11) ⟨.inl rfl, .inl rfl, trivial⟩) ?_
      refine seq_run0 (stp_assign (.dat _) rfl) ?_
      refine awp_seq ?_
      refine awp_seq ?_
      refine awp_plain hN rfl ?_
      refine seq_run0 (stp_move (.dat _) rfl) ?_
      refine seq_run0 (t_len tyU41 rfl) ?_
      refine seq_run0 (stp_move (.dat _) rfl) ?_
      refine awp_block ?_
      refine awp_nilrow 6 1 9 1 rfl rfl rfl ?_
      obtain ⟨h15, H⟩ := gif H
      refine awp_forL (fun (k13 : Nat) (s : (List Bs)) => [(6, .row 1 s.length), (7, .dat (vlst (List.map C_string r10))), (25, .dat (vlst (List.map C_string r10))), (26, .dat (vint (r10.length : Int))), (27, .dat (vint (k13 : Int)))]) (fun (k13 : Nat) (s : (List Bs)) => [(1, .row 9 1 (List.map C_string s))]) [] H ⟨congrArg (Slot.row 1) (by simp), rfl, rfl, rfl, rfl, trivial⟩ ⟨rfl, trivial⟩ (fun _ _ => rfl) ?_ ?_
      · rintro l12 H
        replace H : message_NormalPath_E1 l12 = some r := H
        unfold message_NormalPath_E1 at H
        refine awp_seq ?_
        refine awp_plain hN rfl ?_
        refine seq_run0 (stp_lss rfl rfl) ?_
        refine awp_seq ?_
        refine awp_cond _ rfl (fun h => (lt_t h).elim) (fun h => ?_)
        refine awp_exit ?_
        refine awp_seq ?_
        refine t_freeze 6 1 rfl rfl rfl ?_
        refine awp_plain hN rfl ?_
        refine seq_run0 (stp_move (.dat _) rfl) ?_
        obtain ⟨r17, h18, H⟩ := bnd H
        refine seq_run0 (stp_call (k_strings_Join l12 [47] r17 h18) ⟨.inl rfl, .inl rfl, trivial⟩) ?_
        obtain ⟨h19, H⟩ := gif H
        refine seq_run0 (stp_sadd rfl rfl (Nat.le_trans h19 (by decide))) ?_
        refine seq_run0 (stp_assign (.dat _) rfl) ?_
        refine seq_run0 (stp_assign (.dat _) rfl) ?_
        refine awp_ret ?_
        cases H
        exact ⟨trivial, .inl rfl, .inl rfl, trivial⟩
      · rintro k13 x16 l12 q14 h20 h21 H hq14
        replace H : message_NormalPath_L1 r10 k13 x16 l12 = some q14 := H
        unfold message_NormalPath_L1 at H
        refine awp_cv ?_
        refine awp_seq ?_
        refine awp_plain hN rfl ?_
        refine seq_run0 (stp_lss rfl rfl) ?_
        refine awp_seq ?_
        refine awp_cond _ rfl (fun h => ?_) (fun h => (lt_f h20 h).elim)
        refine awp_skip ?_
        refine awp_joinE (ι := (List Bs)) (fun i => [(6, .row 4 i.length), (7, .dat (vlst (List.map C_string r10))), (25, .dat (vlst (List.map C_string r10))), (26, .dat (vint (r10.length : Int))), (27, .dat (vint (k13 : Int)))]) (fun i => [(4, .row 9 1 (List.map C_string i))]) (fun i => message_NormalPath_J2 i = some q14) (fun i => rfl) ?_ ?_
        · refine awp_cv ?_
          refine awp_block ?_
          refine awp_seq ?_
          refine awp_plain hN rfl ?_
          refine seq_run0 (stp_move (.dat _) rfl) ?_
          refine seq_run0 (t_idx tyE41 (fun _ => rfl) rfl rfl h21) ?_
          refine seq_run0 (stp_loadE1 tyS9 rfl (map_at h21) rfl) ?_
          refine seq_run0 (stp_assign (.dat _) rfl) ?_
          refine seq_run0 (stp_assign (.dat _) rfl) ?_
          refine awp_joinE (ι := (List Bs)) (fun i => [(6, .row 3 i.length), (7, .dat (vlst (List.map C_string r10))), (8, .dat (vint (k13 : Int))), (25, .dat (vlst (List.map C_string r10))), (26, .dat (vint (r10.length : Int))), (27, .dat (vint (k13 : Int)))]) (fun i => [(3, .row 9 1 (List.map C_string i))]) (fun i => message_NormalPath_J3 r10 k13 i = some q14) (fun i => rfl) ?_ ?_
          · refine awp_cv ?_
            refine awp_seq ?_
            refine awp_plain hN rfl ?_
            refine seq_run0 (stp_move (.dat _) rfl) ?_
            refine awp_block ?_
            refine awp_seq ?_
            refine awp_plain hN rfl ?_
            refine seq_run0 (stp_seql rfl rfl) ?_
            refine seq_run0 (stp_assign (.dat _) rfl) ?_
            refine awp_cond _ rfl (fun h22 => ?_) (fun h22 => ?_)
            · replace H := ift h22 H
              refine awp_skip ?_
              show Cv _ _ _ _
              refine cv_ren (rn [(1, 3)]) [(6, .row 1 l12.length), (7, .dat (vlst (List.map C_string r10))), (8, .dat (vint (k13 : Int))), (25, .dat (vlst (List.map C_string r10))), (26, .dat (vint (r10.length : Int))), (27, .dat (vint (k13 : Int)))] [(1, .row 9 1 (List.map C_string l12))] ⟨rfl, rfl, rfl, rfl, rfl, rfl, trivial⟩ ⟨rfl, trivial⟩ rfl rfl ?_
              exact ⟨l12, H, ⟨rfl, rfl, rfl, rfl, rfl, rfl, trivial⟩, ⟨rfl, trivial⟩⟩
            · replace H := iff_ h22 H
              refine awp_seq ?_
              refine awp_plain hN rfl ?_
              refine seq_run0 (stp_seql rfl rfl) ?_
              refine seq_run0 (stp_assign (.dat _) rfl) ?_
              refine awp_cond _ rfl (fun h23 => ?_) (fun h23 => ?_)
              · replace H := ift h23 H
                refine awp_plain hN rfl ?_
                refine seq_run0 (stp_move (.row _ _) rfl) ?_
                refine seq_run0 (stp_move (.row _ _) rfl) ?_
                refine seq_run1 (t_lenR tyU41 rfl rfl) rfl ?_
                refine seq_run0 (stp_wrap _ rfl rfl (.inr (.inl ⟨rfl, rfl⟩))) ?_
                refine seq_run0 (stp_max rfl rfl) ?_
                obtain ⟨h24, H⟩ := gif H
                refine seq_run3 (t_cut (C := C_string) 2 tyE41 rfl rfl rfl h24) rfl rfl ?_
                refine seq_run0 (stp_assign (.row _ _) rfl) ?_
                refine seq_end ?_
                show Cv _ _ _ _
                refine cv_ren (rn [(2, 3)]) [(6, .row 2 ((max (wr ((l12.length : Int) - 1)) 0).toNat)), (7, .dat (vlst (List.map C_string r10))), (8, .dat (vint (k13 : Int))), (25, .dat (vlst (List.map C_string r10))), (26, .dat (vint (r10.length : Int))), (27, .dat (vint (k13 : Int)))] [(2, .row 9 1 (List.map C_string (l12.take (max (wr ((l12.length : Int) - 1)) 0).toNat)))] ⟨rfl, rfl, rfl, rfl, rfl, rfl, trivial⟩ ⟨rfl, trivial⟩ rfl rfl ?_
                exact ⟨(l12.take (max (wr ((l12.length : Int) - 1)) 0).toNat), H, ⟨congrArg (Slot.row 3) ((cut_len h24)).symm, rfl, rfl, rfl, rfl, rfl, trivial⟩, ⟨rfl, trivial⟩⟩
              · replace H := iff_ h23 H
                refine awp_seq ?_
                refine awp_plain hN rfl ?_
                refine seq_run0 (stp_move (.row _ _) rfl) ?_
                refine seq_run0 (stp_move (.dat _) rfl) ?_
                refine seq_run0 (stp_dat (u' := vlst (List.map C_string [x16])) (stp_lit [[_]] tyL41 ⟨rfl, .inl ⟨_, rfl, rfl, rfl⟩, rfl, trivial⟩ rfl rfl) rfl) ?_
                obtain ⟨h25, H⟩ := gif H
                refine seq_run2 (t_app tyL41 (fun _ => rfl) rfl rfl rfl ⟨by simp, by simpa using h25⟩ rfl) rfl ?_
                refine seq_run0 (stp_assign (.row _ _) rfl) ?_
                refine awp_exit ?_
                show Cv _ _ _ _
                refine cv_in ?_
                show Cv _ _ _ _
                refine cv_ren (rn [(1, 4)]) [(6, .row 1 ((l12 ++ [x16]).length)), (7, .dat (vlst (List.map C_string r10))), (25, .dat (vlst (List.map C_string r10))), (26, .dat (vint (r10.length : Int))), (27, .dat (vint (k13 : Int)))] [(1, .row 9 1 (List.map C_string (l12 ++ [x16])))] ⟨rfl, rfl, rfl, rfl, rfl, trivial⟩ ⟨rfl, trivial⟩ rfl rfl ?_
                exact ⟨(l12 ++ [x16]), H, ⟨rfl, rfl, rfl, rfl, rfl, trivial⟩, ⟨rfl, trivial⟩⟩
          · rintro out26 H
            replace H : message_NormalPath_J3 r10 k13 out26 = some q14 := H
            unfold message_NormalPath_J3 at H
            refine awp_seq ?_
            refine awp_plain hN rfl ?_
            refine seq_run0 (stp_move (.dat _) rfl) ?_
            refine seq_run0 (stp_move (.dat _) rfl) ?_
            refine seq_run0 (t_len tyU41 rfl) ?_
            refine seq_run0 (stp_wrap _ rfl rfl (.inr (.inl ⟨rfl, rfl⟩))) ?_
            refine seq_run0 (stp_eql rfl rfl) ?_
            refine awp_cond _ rfl (fun h27 => ?_) (fun h27 => ?_)
            · replace H := ift h27 H
              refine awp_plain hN rfl ?_
              refine seq_run0 (stp_move (.row _ _) rfl) ?_
              refine seq_run0 (stp_dat (u' := vlst (List.map C_string [[]])) (stp_lit [[_]] tyL41 ⟨rfl, .inl ⟨_, rfl, rfl, rfl⟩, rfl, trivial⟩ rfl rfl) rfl) ?_
              obtain ⟨h28, H⟩ := gif H
              refine seq_run2 (t_app tyL41 (fun _ => rfl) rfl rfl rfl ⟨by simp, by simpa using h28⟩ rfl) rfl ?_
              refine seq_run0 (stp_assign (.row _ _) rfl) ?_
              refine seq_end ?_
              show Cv _ _ _ _
              refine cv_ren (rn [(3, 4)]) [(6, .row 3 ((out26 ++ ([[]])).length)), (7, .dat (vlst (List.map C_string r10))), (25, .dat (vlst (List.map C_string r10))), (26, .dat (vint (r10.length : Int))), (27, .dat (vint (k13 : Int)))] [(3, .row 9 1 (List.map C_string (out26 ++ ([[]]))))] ⟨rfl, rfl, rfl, rfl, rfl, trivial⟩ ⟨rfl, trivial⟩ rfl rfl ?_
              exact ⟨(out26 ++ ([[]])), H, ⟨rfl, rfl, rfl, rfl, rfl, trivial⟩, ⟨rfl, trivial⟩⟩
            · replace H := iff_ h27 H
              refine awp_skip ?_
              show Cv _ _ _ _
              refine cv_ren (rn [(3, 4)]) [(6, .row 3 out26.length), (7, .dat (vlst (List.map C_string r10))), (25, .dat (vlst (List.map C_string r10))), (26, .dat (vint (r10.length : Int))), (27, .dat (vint (k13 : Int)))] [(3, .row 9 1 (List.map C_string out26))] ⟨rfl, rfl, rfl, rfl, rfl, trivial⟩ ⟨rfl, trivial⟩ rfl rfl ?_
              exact ⟨out26, H, ⟨rfl, rfl, rfl, rfl, rfl, trivial⟩, ⟨rfl, trivial⟩⟩
        · rintro out29 H
          replace H : message_NormalPath_J2 out29 = some q14 := H
          unfold message_NormalPath_J2 at H
          refine awp_plain hN rfl ?_
          refine seq_run0 (stp_add rfl rfl (by omega)) ?_
          refine seq_run0 (stp_move (.dat _) rfl) ?_
          refine seq_end ?_
          show Cv _ _ _ _
          refine cv_ren (rn [(4, 1)]) [(6, .row 4 out29.length), (7, .dat (vlst (List.map C_string r10))), (25, .dat (vlst (List.map C_string r10))), (26, .dat (vint (r10.length : Int))), (27, .dat (vint ((k13 : Int) + 1)))] [(4, .row 9 1 (List.map C_string out29))] ⟨rfl, rfl, rfl, rfl, rfl, trivial⟩ ⟨rfl, trivial⟩ rfl rfl ?_
          exact ⟨_, backl H, ⟨rfl, rfl, rfl, rfl, rfl, trivial⟩, ⟨rfl, trivial⟩⟩
theorem k_gateref2_visible (s1 : Bs) (low2 : Int) (r : (Bool)) (H : m_gateref2_visible s1 low2 = some r) : Fn Tryz.prog 124 [vstr s1, vval (.int .u8 low2)] (resOf [vbool r]) := by
  refine ⟨by kernel_rfl, pure_of (us := [vbool r]) Tryz.func124 rfl rfl rfl rfl fun X hN => ?_⟩
  unfold m_gateref2_visible at H
  refine awp_seq ?_
  refine awp_plain hN rfl ?_
  refine seq_run0 (stp_assign (.dat _) rfl) ?_
  refine awp_seq ?_
  refine awp_seq ?_
  refine awp_plain hN rfl ?_
  refine seq_run0 (stp_move (.dat _) rfl) ?_
  refine seq_run0 (stp_len_str tyU9 rfl) ?_
  refine seq_run0 (stp_move (.dat _) rfl) ?_
  refine awp_block ?_
  obtain ⟨h5, H⟩ := gif H
  refine awp_forL (fun (k3 : Nat) (s : Unit) => [(0, .dat (vstr s1)), (1, .dat (vval (.int .u8 low2))), (7, .dat (vint (s1.length : Int))), (8, .dat (vint (k3 : Int)))]) (fun (k3 : Nat) (s : Unit) => []) () H ⟨rfl, rfl, rfl, rfl, trivial⟩ trivial (fun _ _ => rfl) ?_ ?_
  · rintro ⟨⟩ H
    replace H : gateref2_visible_E1 = some r := H
    unfold gateref2_visible_E1 at H
    refine awp_seq ?_
    refine awp_plain hN rfl ?_
    refine seq_run0 (stp_lss rfl rfl) ?_
    refine awp_seq ?_
    refine awp_cond _ rfl (fun h => (lt_t h).elim) (fun h => ?_)
    refine awp_exit ?_
    refine awp_seq ?_
    refine awp_plain hN rfl ?_
    refine seq_run0 (stp_assign (.dat _) rfl) ?_
    refine awp_ret ?_
    cases H
    exact ⟨trivial, .inl rfl, trivial⟩
  · rintro k3 x6 ⟨⟩ q4 h7 h8 H hq4
    replace H : gateref2_visible_L1 low2 k3 x6 = some q4 := H
    unfold gateref2_visible_L1 at H
    refine awp_seq ?_
    refine awp_plain hN rfl ?_
    refine seq_run0 (stp_lss rfl rfl) ?_
    refine awp_seq ?_
    refine awp_cond _ rfl (fun h => ?_) (fun h => (lt_f h7 h).elim)
    refine awp_skip ?_
    refine awp_seq ?_
    refine awp_block ?_
    refine awp_seq ?_
    refine awp_plain hN rfl ?_
    refine seq_run0 (stp_move (.dat _) rfl) ?_
    refine seq_run0 (stp_assign (.dat _) rfl) ?_
    refine awp_joinE (ι := Bool) (fun i => [(0, .dat (vstr s1)), (1, .dat (vval (.int .u8 low2))), (7, .dat (vint (s1.length : Int))), (8, .dat (vint (k3 : Int))), (21, .dat (vbool i))]) (fun i => []) (fun i => gateref2_visible_J2 i = some q4) (fun i => rfl) ?_ ?_
    · skip
      refine awp_plain hN rfl ?_
      refine seq_run0 (stp_move (.dat _) rfl) ?_
      refine seq_run0 (stp_move (.dat _) rfl) ?_
      refine seq_run0 (t_byte tyU9 rfl rfl h8) ?_
      refine seq_run0 (stp_move (.dat _) rfl) ?_
      refine seq_run0 (stp_lss rfl rfl) ?_
      refine seq_run0 (stp_move (.dat _) rfl) ?_
      refine seq_split (j := 5) rfl rfl (fun h9 => ?_) (fun h9 => ?_) rfl
      · have h10 := un3 h9
        replace H := iff_ h10 H
        refine seq_g0 rfl rfl h9 (stp_move (.dat _) rfl) ?_
        refine seq_g0 rfl rfl h9 (stp_move (.dat _) rfl) ?_
        refine seq_g0 rfl rfl h9 (t_byte tyU9 rfl rfl h8) ?_
        refine seq_g0 rfl rfl h9 (stp_gtr rfl rfl) ?_
        refine seq_run0 (stp_pick_f rfl (bFF h10) rfl) ?_
        exact ⟨decide (126 < (x6.toNat : Int)), H, ⟨rfl, rfl, rfl, rfl, rfl, trivial⟩, trivial⟩
      · have h11 := un4 h9
        replace H := ift h11 H
        refine seq_skip rfl rfl h9 ?_
        refine seq_skip rfl rfl h9 ?_
        refine seq_skip rfl rfl h9 ?_
        refine seq_skip rfl rfl h9 ?_
        refine seq_run0 (stp_pick_t rfl (bTT h11) rfl) ?_
        exact ⟨true, H, ⟨rfl, rfl, rfl, rfl, rfl, trivial⟩, trivial⟩
    · rintro v12 H
      replace H : gateref2_visible_J2 v12 = some q4 := H
      unfold gateref2_visible_J2 at H
      refine awp_cond _ rfl (fun h13 => ?_) (fun h13 => ?_)
      · replace H := ift h13 H
        refine awp_seq ?_
        refine awp_plain hN rfl ?_
        refine seq_run0 (stp_assign (.dat _) rfl) ?_
        refine awp_ret ?_
        replace H := retl H hq4
        cases H
        exact ⟨trivial, .inl rfl, trivial⟩
      · replace H := iff_ h13 H
        refine awp_skip ?_
        refine awp_plain hN rfl ?_
        refine seq_run0 (stp_add rfl rfl (by omega)) ?_
        refine seq_run0 (stp_move (.dat _) rfl) ?_
        exact ⟨_, backl H, ⟨rfl, rfl, rfl, rfl, trivial⟩, trivial⟩
theorem k_gateref2_pathForm (s1 : Bs) (r : (Bool)) (H : m_gateref2_pathForm s1 = some r) : Fn Tryz.prog 76 [vstr s1] (resOf [vbool r]) := by
  refine ⟨by kernel_rfl, pure_of (us := [vbool r]) Tryz.func76 rfl rfl rfl rfl fun X hN => ?_⟩
  unfold m_gateref2_pathForm at H
  refine awp_seq ?_
  refine awp_plain hN rfl ?_
  refine seq_run0 (stp_assign (.dat _) rfl) ?_
  refine awp_joinE (ι := Bool) (fun i => [(2, .dat (vbool i))]) (fun i => []) (fun i => gateref2_pathForm_J1 i = some r) (fun i => rfl) ?_ ?_
  · skip
    refine awp_plain hN rfl ?_
    refine seq_run0 (stp_move (.dat _) rfl) ?_
    refine seq_run0 (stp_len_str tyU9 rfl) ?_
    obtain ⟨r2, h3, H⟩ := bnd H
    refine seq_run0 (stp_call (k_gateref2_in (s1.length : Int) 1 1000 r2 h3) ⟨.inl rfl, .inl rfl, .inl rfl, trivial⟩) ?_
    refine seq_run0 (stp_move (.dat _) rfl) ?_
    refine seq_split (j := 3) rfl rfl (fun h4 => ?_) (fun h4 => ?_) rfl
    · have h5 := un1 h4
      replace H := ift h5 H
      refine seq_g0 rfl rfl h4 (stp_move (.dat _) rfl) ?_
      obtain ⟨x6, h7, H⟩ := bnd H
      refine seq_g0 rfl rfl h4 (t_byte tyU9 rfl rfl h7) ?_
      refine seq_g0 rfl rfl h4 (stp_eql rfl rfl) ?_
      refine seq_run0 (stp_pick_t rfl (bTT h5) rfl) ?_
      refine seq_run0 (stp_move (.dat _) rfl) ?_
      refine seq_split (j := 8) rfl rfl (fun h8 => ?_) (fun h8 => ?_) rfl
      · have h9 := un1 h8
        replace H := ift h9 H
        refine seq_g0 rfl rfl h8 (stp_move (.dat _) rfl) ?_
        obtain ⟨r10, h11, H⟩ := bnd H
        refine seq_g0 rfl rfl h8 (stp_call (k_gateref2_visible s1 33 r10 h11) ⟨.inl rfl, .inl rfl, trivial⟩) ?_
        refine seq_run0 (stp_pick_t rfl (bTT h9) rfl) ?_
        refine seq_run0 (stp_move (.dat _) rfl) ?_
        refine seq_split (j := 12) rfl rfl (fun h12 => ?_) (fun h12 => ?_) rfl
        · have h13 := un1 h12
          replace H := ift h13 H
          refine seq_g0 rfl rfl h12 (stp_move (.dat _) rfl) ?_
          obtain ⟨r14, h15, H⟩ := bnd H
          refine seq_g0 rfl rfl h12 (stp_call (k_strings_ContainsAny s1 [63, 35] r14 h15) ⟨.inl rfl, .inl rfl, trivial⟩) ?_
          refine seq_g0 rfl rfl h12 (stp_not rfl) ?_
          refine seq_run0 (stp_pick_t rfl (bTT h13) rfl) ?_
          refine seq_run0 (stp_assign (.dat _) rfl) ?_
          exact ⟨!r14, H, ⟨rfl, trivial⟩, trivial⟩
        · have h16 := un2 h12
          replace H := iff_ h16 H
          refine seq_skip rfl rfl h12 ?_
          refine seq_skip rfl rfl h12 ?_
          refine seq_skip rfl rfl h12 ?_
          refine seq_run0 (stp_pick_f rfl (bFF h16) rfl) ?_
          refine seq_run0 (stp_assign (.dat _) rfl) ?_
          exact ⟨false, H, ⟨rfl, trivial⟩, trivial⟩
      · have h17 := un2 h8
        replace H := iff_ h17 H
        refine seq_skip rfl rfl h8 ?_
        refine seq_skip rfl rfl h8 ?_
        refine seq_run0 (stp_pick_f rfl (bFF h17) rfl) ?_
        refine seq_run0 (stp_move (.dat _) rfl) ?_
        refine seq_skip rfl rfl rfl ?_
        refine seq_skip rfl rfl rfl ?_
        refine seq_skip rfl rfl rfl ?_
        refine seq_run0 (stp_pick_f rfl rfl rfl) ?_
        refine seq_run0 (stp_assign (.dat _) rfl) ?_
        exact ⟨false, H, ⟨rfl, trivial⟩, trivial⟩
    · have h18 := un2 h4
      replace H := iff_ h18 H
      refine seq_skip rfl rfl h4 ?_
      refine seq_skip rfl rfl h4 ?_
      refine seq_skip rfl rfl h4 ?_
      refine seq_run0 (stp_pick_f rfl (bFF h18) rfl) ?_
      refine seq_run0 (stp_move (.dat _) rfl) ?_
      refine seq_skip rfl rfl rfl ?_
      refine seq_skip rfl rfl rfl ?_
      refine seq_run0 (stp_pick_f rfl rfl rfl) ?_
      refine seq_run0 (stp_move (.dat _) rfl) ?_
      refine seq_skip rfl rfl rfl ?_
      refine seq_skip rfl rfl rfl ?_
      refine seq_skip rfl rfl rfl ?_
      refine seq_run0 (stp_pick_f rfl rfl rfl) ?_
      refine seq_run0 (stp_assign (.dat _) rfl) ?_
      exact ⟨false, H, ⟨rfl, trivial⟩, trivial⟩
  · rintro v19 H
    replace H : gateref2_pathForm_J1 v19 = some r := H
    unfold gateref2_pathForm_J1 at H
    refine awp_ret ?_
    cases H
    exact ⟨trivial, .inl rfl, trivial⟩
theorem k_gateref2_units (s1 : Bs) (r : ((List S_gateref2_unit) × Bool)) (H : m_gateref2_units s1 = some r) : Fn Tryz.prog 90 [vstr s1] (resOf [vlst (List.map C_gateref2_unit r.1), vbool r.2]) := by
  refine ⟨by kernel_rfl, pure_of (us := [vlst (List.map C_gateref2_unit r.1), vbool r.2]) Tryz.func90 rfl rfl rfl rfl fun X hN => ?_⟩
  unfold m_gateref2_units at H
  refine awp_seq ?_
  refine awp_plain hN rfl ?_
  refine seq_run0 (stp_assign (.dat _) rfl) ?_
  refine seq_run0 (stp_assign (.dat _) rfl) ?_
  refine awp_seq ?_
  refine awp_plain hN rfl ?_
  refine seq_run0 (stp_assign (.dat _) rfl) ?_
  refine awp_joinE (ι := (List S_gateref2_unit)) (fun i => [(4, .row 1 i.length)]) (fun i => [(1, .row 101 2 (List.map C_gateref2_unit i))]) (fun i => gateref2_units_J1 i = some r) (fun i => rfl) ?_ ?_
  · skip
    refine awp_block ?_
    refine awp_nilrow 4 1 101 2 rfl rfl rfl ?_
    refine awp_iter (fun (s : Bs × (List S_gateref2_unit)) => [(0, .dat (vstr s.1)), (4, .row 1 s.2.length)]) (fun (s : Bs × (List S_gateref2_unit)) => [(1, .row 101 2 (List.map C_gateref2_unit s.2))]) (s1, []) H ⟨rfl, congrArg (Slot.row 1) (by simp), trivial⟩ ⟨rfl, trivial⟩ (fun _ => rfl) ?_
    rintro ⟨s2, l3⟩ q4 H hq4
    replace H : gateref2_units_L2 s2 l3 = some q4 := H
    unfold gateref2_units_L2 at H
    refine awp_seq ?_
    refine awp_seq ?_
    refine awp_plain hN rfl ?_
    refine seq_run0 (stp_move (.dat _) rfl) ?_
    refine seq_run0 (stp_sneq rfl rfl) ?_
    refine awp_cond _ rfl (fun h5 => ?_) (fun h5 => ?_)
    · replace H := ift h5 H
      refine awp_skip ?_
      refine awp_block ?_
      refine awp_seq ?_
      refine awp_seq ?_
      refine awp_plain hN rfl ?_
      refine seq_run0 (stp_move (.dat _) rfl) ?_
      obtain ⟨x6, h7, H⟩ := bnd H
      refine seq_run0 (t_byte tyU9 rfl rfl h7) ?_
      refine seq_run0 (stp_neq rfl rfl) ?_
      refine awp_cond _ rfl (fun h8 => ?_) (fun h8 => ?_)
      · replace H := ift h8 H
        refine awp_seq ?_
        refine awp_draw mixed hN rfl rfl ?_
        refine seq_run0 (stp_move (.row _ _) rfl) ?_
        refine seq_run0 (stp_move (.dat _) rfl) ?_
        refine seq_run0 (t_byte tyU9 rfl rfl h7) ?_
        refine seq_run0 (stp_dat (u' := vagg (C_gateref2_unit (S_gateref2_unit.mk (x6.toNat : Int) true))) (stp_build [(0, [vval (.int .u8 (x6.toNat : Int))]), (1, [vbool true])] tyZ101 tyP101 rfl ⟨rfl, .inl ⟨_, rfl, rfl, rfl⟩, rfl, rfl, .inl ⟨_, rfl, rfl, rfl⟩, rfl, trivial⟩) rfl) ?_
        refine seq_run0 (stp_dat (u' := vlst (List.map C_gateref2_unit [(S_gateref2_unit.mk (x6.toNat : Int) true)])) (stp_lit [_] tyL97 ⟨rfl, .inr rfl, rfl, trivial⟩ rfl rfl) rfl) ?_
        obtain ⟨h9, H⟩ := gif H
        refine seq_run2 (t_app tyL97 (fun _ => rfl) rfl rfl rfl ⟨by simp, by simpa using h9⟩ rfl) rfl ?_
        refine seq_run0 (stp_move (.dat _) rfl) ?_
        obtain ⟨l10, h11, H⟩ := bnd H
        refine seq_run0 (t_subS tyU9 rfl rfl rfl h11) ?_
        refine seq_run0 (stp_assign (.row _ _) rfl) ?_
        refine seq_run0 (stp_assign (.dat _) rfl) ?_
        refine ⟨rfl, ?_⟩
        refine awp_exit ?_
        exact ⟨_, backl H, ⟨rfl, rfl, trivial⟩, ⟨rfl, trivial⟩⟩
      · replace H := iff_ h8 H
        refine awp_skip ?_
        refine awp_seq ?_
        refine awp_seq ?_
        refine awp_plain hN rfl ?_
        refine seq_run0 (stp_move (.dat _) rfl) ?_
        refine seq_run0 (stp_len_str tyU9 rfl) ?_
        refine seq_run0 (stp_lss rfl rfl) ?_
        refine awp_cond _ rfl (fun h12 => ?_) (fun h12 => ?_)
        · replace H := ift h12 H
          refine awp_seq ?_
          refine awp_plain hN rfl ?_
          refine seq_run0 (stp_assign (.dat _) rfl) ?_
          refine seq_run0 (stp_assign (.dat _) rfl) ?_
          refine awp_ret ?_
          replace H := retl H hq4
          cases H
          exact ⟨trivial, .inr ⟨rfl, rfl⟩, .inl rfl, trivial⟩
        · replace H := iff_ h12 H
          refine awp_skip ?_
          refine awp_seq ?_
          refine awp_plain hN rfl ?_
          refine seq_run0 (stp_move (.dat _) rfl) ?_
          obtain ⟨l13, h14, H⟩ := bnd H
          refine seq_run0 (t_subS tyU9 rfl rfl rfl h14) ?_
          obtain ⟨r15, h16, H⟩ := bnd H
          refine seq_run0 (stp_call (k_strconv_ParseUint l13 16 8 r15 h16) ⟨.inl rfl, .inl rfl, .inl rfl, trivial⟩) ?_
          refine seq_run0 (stp_move (.dat _) rfl) ?_
          refine seq_run0 (stp_ext rfl rfl) ?_
          refine seq_run0 (stp_ext rfl rfl) ?_
          refine seq_run0 (stp_assign (.dat _) rfl) ?_
          refine seq_run0 (stp_assign (.dat _) rfl) ?_
          refine awp_seq ?_
          refine awp_seq ?_
          refine awp_plain hN rfl ?_
          refine seq_run0 (stp_move (.dat _) rfl) ?_
          refine seq_run0 (stp_errneq (n := r15.2) (show Tryz.prog.underlying 112 = some (.interface (Tryz.prog.methodsAt 112)) from by kernel_rfl) rfl) ?_
          refine awp_cond _ rfl (fun h17 => ?_) (fun h17 => ?_)
          · replace H := ift h17 H
            refine awp_seq ?_
            refine awp_plain hN rfl ?_
            refine seq_run0 (stp_assign (.dat _) rfl) ?_
            refine seq_run0 (stp_assign (.dat _) rfl) ?_
            refine awp_ret ?_
            replace H := retl H hq4
            cases H
            exact ⟨trivial, .inr ⟨rfl, rfl⟩, .inl rfl, trivial⟩
          · replace H := iff_ h17 H
            refine awp_skip ?_
            refine awp_draw mixed hN rfl rfl ?_
            refine seq_run0 (stp_move (.row _ _) rfl) ?_
            refine seq_run0 (stp_move (.dat _) rfl) ?_
            refine seq_run0 (stp_conv tyU166 tyU5 rfl) ?_
            refine seq_run0 (stp_dat (u' := vagg (C_gateref2_unit (S_gateref2_unit.mk (IntKind.wrap .u8 r15.1) false))) (stp_build [(0, [vval (.int .u8 (IntKind.wrap .u8 r15.1))]), (1, [vbool false])] tyZ101 tyP101 rfl ⟨rfl, .inl ⟨_, rfl, rfl, rfl⟩, rfl, rfl, .inl ⟨_, rfl, rfl, rfl⟩, rfl, trivial⟩) rfl) ?_
            refine seq_run0 (stp_dat (u' := vlst (List.map C_gateref2_unit [(S_gateref2_unit.mk (IntKind.wrap .u8 r15.1) false)])) (stp_lit [_] tyL97 ⟨rfl, .inr rfl, rfl, trivial⟩ rfl rfl) rfl) ?_
            obtain ⟨h18, H⟩ := gif H
            refine seq_run2 (t_app tyL97 (fun _ => rfl) rfl rfl rfl ⟨by simp, by simpa using h18⟩ rfl) rfl ?_
            refine seq_run0 (stp_move (.dat _) rfl) ?_
            obtain ⟨l19, h20, H⟩ := bnd H
            refine seq_run0 (t_subS tyU9 rfl rfl rfl h20) ?_
            refine seq_run0 (stp_assign (.row _ _) rfl) ?_
            refine seq_run0 (stp_assign (.dat _) rfl) ?_
            refine ⟨rfl, ?_⟩
            exact ⟨_, backl H, ⟨rfl, rfl, trivial⟩, ⟨rfl, trivial⟩⟩
    · replace H := iff_ h5 H
      refine awp_exit ?_
      replace H := outl H hq4
      exact ⟨l3, H, ⟨rfl, trivial⟩, ⟨rfl, trivial⟩⟩
  · rintro out21 H
    replace H : gateref2_units_J1 out21 = some r := H
    unfold gateref2_units_J1 at H
    refine awp_seq ?_
    refine awp_plain hN rfl ?_
    refine seq_run0 (stp_move (.row _ _) rfl) ?_
    refine seq_run0 (stp_assign (.row _ _) rfl) ?_
    refine seq_run0 (stp_assign (.dat _) rfl) ?_
    refine awp_ret ?_
    cases H
    exact ⟨trivial, t_slotv rfl rfl, .inl rfl, trivial⟩
theorem k_slices_Backward_L_string_string_ (l : List Bs) : Fn Tryz.prog 92 [vlst (List.map C_string l)] (resOf [vfn 162 [vcell [[vlst (List.map C_string l)]] 0 0]]) := by
  refine ⟨by kernel_rfl, pure_of (us := [vfn 162 [vcell [[vlst (List.map C_string l)]] 0 0]]) Tryz.func92 rfl rfl rfl rfl fun X hN => ?_⟩
  refine awp_seq ?_
  refine awp_plain hN rfl ?_
  refine seq_run2 (stp_box1 1 rfl rfl) rfl ?_
  refine seq_run0 (stp_assign (.dat _) rfl) ?_
  refine awp_seq ?_
  refine awp_frzB 1 [vlst (List.map C_string l)] rfl rfl ?_
  refine awp_plain hN rfl ?_
  refine seq_run0 (stp_mkfn (us := [_]) ⟨rfl, trivial⟩) ?_
  refine seq_run0 (stp_assign (.dat _) rfl) ?_
  refine awp_ret ?_
  exact ⟨trivial, .inl rfl, trivial⟩
theorem it_slices_Backward_L_string_string_ : BackIt Tryz.prog 162 1 true := by
  intro vals M l cap J Jx W hn hvn hk hc hY h0
  have hnt : Tryz.f162.ntmps = 19 := rfl
  refine callsIn_of_wp Tryz.func162 rfl trivial ?_ rfl
  rw [hnt]
  obtain ⟨vc, hvc⟩ : ∃ vc : V, vc = vand (vcell [[vlst (vals.map fun c => c.map vval)]] 0 0) cap := ⟨_, rfl⟩
  have hwk : Wk vc (vcell [[vlst (vals.map fun c => c.map vval)]] 0 0) := by rw [hvc]; exact wk_and _ _
  have hvm : ∀ W', (vcell [[vlst (vals.map fun c => c.map vval)]] 0 0).p W' M cap → vc.p W' M cap := fun W' h => by rw [hvc]; exact ⟨rfl, h⟩
  have hvo : ∀ W' M' v, vc.p W' M' v → v = cap := fun W' M' v h => by rw [hvc] at h; exact h.1
  obtain ⟨hM, hcp⟩ := hc _ _ h0
  refine wpIn_seq (wpIn_mono (run_pureA (N := 19) hM ?hN ?hD [(0, vval (yv l)), (1, vc)] ?hr (Q := fun e f => e = .normal ∧ f 0 = .dat (vval (yv l)) ∧ f 1 = .dat vc ∧ f 3 = .dat (vint ((vals.length : Int) - 1))) fun X hN => ?_) ?_)
  case hN => simp
  case hD => rfl
  case hr => exact ⟨by simp [yv, vval], by simpa using hvm _ hcp, trivial⟩
  · refine awp_plain hN rfl ?_
    refine seq_run0 (stp_loadE1W tyS41 rfl hwk rfl rfl) ?_
    refine seq_run0 (t_len (C := fun c : List Value => c.map vval) tyU41 rfl) ?_
    refine seq_run0 (stp_sub rfl rfl (by omega)) ?_
    refine seq_run0 (stp_assign (.dat _) rfl) ?_
    exact ⟨rfl, rfl, rfl, rfl⟩
  rintro e a W1 ⟨hk1, hN, hD, f, own, g, M', hfr, rfl, e0, e1, e3⟩
  have t0 : a.tmps.getD 0 undef = yv l := by have := hfr 0; rw [e0] at this; exact this
  have t1 : a.tmps.getD 1 undef = cap := by have := hfr 1; rw [e1] at this; exact hvo _ _ _ this
  have t3 : a.tmps.getD 3 undef = .int .i64 ((vals.length : Int) - 1) := by have := hfr 3; rw [e3] at this; exact this
  refine wpIn_block (wpIn_loop_rounds (vals.length + 1) ?_)
  have hJ1 := hk _ _ _ h0 hk1
  clear hk1 hfr e0 e1 e3 hcp hM h0
  suffices key : ∀ m, m ≤ vals.length → ∀ a W, a.tmps.size = 19 → a.defers = [] → a.tmps.getD 0 undef = yv l → a.tmps.getD 1 undef = cap → a.tmps.getD 3 undef = .int .i64 ((m : Int) - 1) → J m W → Code.roundsIn Fence.wide 0 Tryz.prog _ _ (m + 1) a W from key _ (Nat.le_refl _) a W1 hN hD t0 t1 t3 hJ1
  clear t0 t1 t3 hN hD hJ1
  intro m
  induction m with
  | zero =>
    intro _ a W hN hD t0 t1 t3 hJ
    obtain ⟨hM, hcp⟩ := hc _ _ hJ
    rw [roundsIn_succ]
    refine wpIn_seq (wpIn_seq (wpIn_mono (run_pureA (N := 19) hM hN hD [(3, vint (-1))] ⟨by rw [t3]; rfl, trivial⟩ (Q := fun e f => e = .normal ∧ f 8 = .dat (vbool (decide ((0 : Int) ≤ -1)))) fun X hN => ?_) ?_))
    · refine awp_plain hN rfl ?_
      refine seq_run0 (stp_move (.dat _) rfl) ?_
      refine seq_run0 (stp_geq rfl rfl) ?_
      exact ⟨rfl, rfl⟩
    rintro e a' W' ⟨hk1, hN', hD', f, own, g, M', hfr, rfl, e8⟩
    have t8 : a'.tmps.getD 8 undef = .bool false := by have := hfr 8; rw [e8] at this; exact this
    exact wpIn_cond_false t8 (wpIn_exit ⟨hD', _, results_none rfl _ _ _, ⟨_, rfl⟩, .inl (hk _ _ _ hJ hk1)⟩)
  | succ m ih =>
    intro hm a W hN hD t0 t1 t3 hJ
    obtain ⟨hM, hcp⟩ := hc _ _ hJ
    have hm3 : (((m + 1 : Nat) : Int) - 1) = (m : Int) := by omega
    rw [hm3] at t3
    rw [roundsIn_succ]
    refine wpIn_seq (wpIn_seq (wpIn_mono (run_pureA (N := 19) hM hN hD [(0, vval (yv l)), (1, vc), (3, vint (m : Int))] ⟨t0, by rw [t1]; exact hvm _ hcp, by rw [t3]; rfl, trivial⟩ (Q := fun e f => e = .normal ∧ f 0 = .dat (vval (yv l)) ∧ f 1 = .dat vc ∧ f 3 = .dat (vint (m : Int)) ∧ f 8 = .dat (vbool (decide ((0 : Int) ≤ (m : Int))))) fun X hN => ?_) ?_))
    · refine awp_plain hN rfl ?_
      refine seq_run0 (stp_move (.dat _) rfl) ?_
      refine seq_run0 (stp_geq rfl rfl) ?_
      exact ⟨rfl, rfl, rfl, rfl, rfl⟩
    rintro e a1 W1 ⟨hk1, hN1, hD1, f, own, g, M', hfr, rfl, e0, e1, e3, e8⟩
    have u0 : a1.tmps.getD 0 undef = yv l := by have := hfr 0; rw [e0] at this; exact this
    have u1 : a1.tmps.getD 1 undef = cap := by have := hfr 1; rw [e1] at this; exact hvo _ _ _ this
    have u3 : a1.tmps.getD 3 undef = .int .i64 (m : Int) := by have := hfr 3; rw [e3] at this; exact this
    have u8 : a1.tmps.getD 8 undef = .bool true := by
      have := hfr 8; rw [e8, decide_eq_true (by omega)] at this; exact this
    refine wpIn_cond_true u8 (wpIn_skip ?_)
    have hJ1 := hk _ _ _ hJ hk1
    clear hfr e0 e1 e3 e8 hk1 hJ hM hcp t0 t1 t3 hN hD
    obtain ⟨hM1, hcp1⟩ := hc _ _ hJ1
    refine wpIn_seq (wpIn_block (wpIn_seq ?_))
    refine wpIn_region ?_
    obtain ⟨X, hX⟩ : ∃ X : Ctx, X = ⟨fun b => M b, W1, [], 19, none, []⟩ := ⟨_, rfl⟩
    have hrel : Rel X (frs (datL [(0, vval (yv l)), (1, vc), (3, vint (m : Int))])) (fun _ => none) ⟨fun _ => none, fun _ _ => none⟩ a1 W1 := by
      subst hX
      have he : Ext M (Mof ⟨fun b => M b, W1, [], 19, none, []⟩ ⟨fun _ => none, fun _ _ => none⟩ (fun _ => none)) W1 W1 := ⟨Nat.le_refl _, fun _ _ _ _ => rfl, fun b _ hb => by
        rcases hb with hb | ⟨id, o, ho, _⟩
        · exact hb
        · cases ho⟩
      refine ⟨Kp.refl _ _, ⟨fun b hb => ⟨hM1.1 b hb, by simp⟩, hM1.2.1, fun b hb => ⟨hM1.2.2 b hb, by simp⟩⟩, hN1, hD1, fun t => rep_at [(0, vval (yv l)), (1, vc), (3, vint (m : Int))] ⟨u0, by rw [u1]; exact vc.keep he (hvm _ hcp1), by rw [u3]; rfl, trivial⟩ t, fun id o ho => (by cases ho), fun id _ o _ b ho => (by cases ho), fun id o b ho => (by cases ho), fun id _ => ⟨rfl, fun _ => rfl⟩, fun id e size es h => (by cases h)⟩
    have hNX : X.N = 19 := by rw [hX]
    have hRX : X.R = none := by rw [hX]
    have hDX : X.D = [] := by rw [hX]
    have hKX : ∀ W', Kp X.S0 X.w0 W' → Kp [] W1 W' := fun W' h => by rw [hX] at h; exact h
    obtain ⟨el, hel⟩ : ∃ el, vals[m]? = some el := ⟨_, List.getElem?_eq_getElem (by omega)⟩
    have hell : (el.map vval).length = 1 := by rw [List.length_map]; exact hvn el (List.mem_of_getElem? hel)
    obtain ⟨x, rfl⟩ : ∃ x, el = [x] := List.length_eq_one_iff.1 (by simpa using hell)
    have helm : (vals.map fun c => c.map vval)[m]? = some ([x].map vval) := by rw [List.getElem?_map, hel]; rfl
    have helD : vals.getD m [] = [x] := by rw [List.getD_eq_getElem?_getD, hel]; rfl
    clear hX
    refine opsR hRX (n := 6 + 2) rfl ?_
    refine seqA_pre (P := Tryz.prog) (X := X) (by rw [hNX]; rfl) [_, _, _, _, _, _] [_, _] 0 _ _ [] _ a1 W1 rfl hrel ?_
    refine seq_run0 (stp_move (.dat _) rfl) ?_
    refine seq_run0 (stp_move (.dat _) rfl) ?_
    refine seq_run0 (stp_loadE1W tyS41 rfl hwk rfl rfl) ?_
    refine seq_run0 (stp_move (.dat _) rfl) ?_
    refine seq_run0 (stp_idxE (k := m) tyE41 rfl rfl (by rw [List.length_map]; omega) (fun c hc => by
      obtain ⟨c', hc', rfl⟩ := List.mem_map.1 hc
      rw [List.length_map]; exact hvn c' hc')) ?_
    refine seq_run0 (stp_loadE1 tyS9 rfl helm rfl) ?_
    intro g2 a2 W2 k2
    have v0 : a2.tmps.getD 0 undef = yv l := k2.fr 0
    have v1 : a2.tmps.getD 1 undef = cap := hvo _ _ _ (k2.fr 1)
    have v3 : a2.tmps.getD 3 undef = .int .i64 (m : Int) := k2.fr 3
    have v11 : a2.tmps.getD 11 undef = yv l := k2.fr 11
    have v12 : a2.tmps.getD 12 undef = .int .i64 (m : Int) := k2.fr 12
    have v16 : a2.tmps.getD 16 undef = x := k2.fr 16
    have hN2 : a2.tmps.size = 19 := k2.n.trans hNX
    have hD2 : a2.defers = [] := k2.df.trans hDX
    have hJ2 := hk _ _ _ hJ1 (hKX _ k2.kp)
    clear k2 hrel
    obtain ⟨fn, tm, asg, bdy, hrun, hR⟩ := hY m W2 (by omega) hJ2
    rw [helD] at hrun
    change (Instr.yield l #[.int .i64 (m : Int), x]).run Tryz.prog W2 = _ at hrun
    rw [hRX]
    show wpOpsIn Fence.wide 0 Tryz.prog _ _ [6, 7] a2 W2
    refine wpOps_yield rfl rfl rfl v11 (by simp [Act.eval, v12, v16]) hrun (hR.mono ?_)
    rintro e W3 (⟨rfl, hJ3⟩ | ⟨rfl, hJ3⟩)
    · obtain ⟨hM3, hcp3⟩ := hc _ _ hJ3
      refine ⟨_, rfl, ?_⟩
      obtain ⟨a3, ha3⟩ : ∃ a3 : Act, a3 = a2.put (some 17) (.bool true) := ⟨_, rfl⟩
      have hN3 : a3.tmps.size = 19 := by rw [ha3]; simpa [Act.put] using hN2
      have hD3 : a3.defers = [] := by rw [ha3]; exact hD2
      have g3 : ∀ t, a3.tmps.getD t undef = if t = 17 then .bool true else a2.tmps.getD t undef := fun t => by rw [ha3]; exact arr_put hN2 (by decide) t
      show wpOpsIn Fence.wide 0 Tryz.prog _ _ (List.range' 7 1) (a2.put (some 17) (.bool true)) W3
      rw [← ha3]
      refine opsT (N := 19) (i := 7) (os := [_]) hM3 hN3 hD3 [(0, vval (yv l)), (1, vc), (3, vint (m : Int)), (17, vbool true)] ⟨?_, ?_, ?_, ?_, trivial⟩ (Q' := fun f => f 0 = .dat (vval (yv l)) ∧ f 1 = .dat vc ∧ f 3 = .dat (vint (m : Int)) ∧ f 18 = .dat (vbool (!true))) rfl rfl (fun _ _ => ?_) ?_
      · show _ = _
        rw [g3, if_neg (by decide)]; exact v0
      · rw [g3, if_neg (by decide), v1]; exact hvm _ hcp3
      · show _ = _
        rw [g3, if_neg (by decide)]; exact v3
      · show _ = _
        rw [g3, if_pos rfl]
      · refine seq_run0 (stp_not rfl) ?_
        exact ⟨rfl, rfl, rfl, rfl⟩
      intro a4 W4 hk4 hN4 hD4 f g M' hfr ⟨e0, e1, e3, e18⟩
      have z0 : a4.tmps.getD 0 undef = yv l := by have := hfr 0; rw [e0] at this; exact this
      have z1 : a4.tmps.getD 1 undef = cap := by have := hfr 1; rw [e1] at this; exact hvo _ _ _ this
      have z3 : a4.tmps.getD 3 undef = .int .i64 (m : Int) := by have := hfr 3; rw [e3] at this; exact this
      have z18 : a4.tmps.getD 18 undef = .bool false := by have := hfr 18; rw [e18] at this; exact this
      refine wpIn_cond_false z18 (wpIn_skip ?_)
      have hJ4 := hk _ _ _ hJ3 hk4
      obtain ⟨hM4, hcp4⟩ := hc _ _ hJ4
      refine wpIn_mono (run_pureA (N := 19) hM4 hN4 hD4 [(0, vval (yv l)), (1, vc), (3, vint (m : Int))] ⟨z0, by rw [z1]; exact hvm _ hcp4, by rw [z3]; rfl, trivial⟩ (Q := fun e f => e = .normal ∧ f 0 = .dat (vval (yv l)) ∧ f 1 = .dat vc ∧ f 3 = .dat (vint ((m : Int) - 1))) fun X hN => ?_) ?_
      · refine awp_plain hN rfl ?_
        refine seq_run0 (stp_move (.dat _) rfl) ?_
        refine seq_run0 (stp_sub rfl rfl (by omega)) ?_
        refine seq_run0 (stp_assign (.dat _) rfl) ?_
        exact ⟨rfl, rfl, rfl, rfl⟩
      rintro e a5 W5 ⟨hk5, hN5, hD5, f5, own5, g5, M5, hfr5, rfl, e0, e1, e3⟩
      exact ih (by omega) a5 W5 hN5 hD5 (by have := hfr5 0; rw [e0] at this; exact this) (by have := hfr5 1; rw [e1] at this; exact hvo _ _ _ this) (by have := hfr5 3; rw [e3] at this; exact this) (hk _ _ _ hJ4 hk5)
    · refine ⟨_, rfl, ?_⟩
      obtain ⟨a3, ha3⟩ : ∃ a3 : Act, a3 = a2.put (some 17) (.bool false) := ⟨_, rfl⟩
      show wpOpsIn Fence.wide 0 Tryz.prog _ _ [7] (a2.put (some 17) (.bool false)) W3
      rw [← ha3]
      have g3 : ∀ t, a3.tmps.getD t undef = if t = 17 then .bool false else a2.tmps.getD t undef := fun t => by rw [ha3]; exact arr_put hN2 (by decide) t
      have hN3 : a3.tmps.size = 19 := by rw [ha3]; simpa [Act.put] using hN2
      have hD3 : a3.defers = [] := by rw [ha3]; exact hD2
      have v17 : a3.tmps.getD 17 undef = .bool false := by rw [g3, if_pos rfl]
      rw [wpOpsIn_cons]
      unfold wpOpIn
      refine ⟨fun _ _ => trivial, ?_⟩
      have hrun : ∀ o : Oper, o.op = .unOp .not 4 (.tmp 17) → (o.semAt Fence.wide.round a3.eval).run Tryz.prog W3 = .ok (.value (.bool true)) W3 := fun o ho => by
        rw [Oper.semAt_eq Fence.wide.round a3.eval o (fun c hc => by rw [ho] at hc; cases hc)]
        have h1 : a3.eval (.tmp 17) = .bool false := v17
        simp only [execOp, ho, h1, Op.unary]
        rfl
      rw [hrun _ rfl, Oper.uponIn_value]
      have t18 : (a3.put (some 18) (.bool true)).tmps.getD 18 undef = .bool true := by rw [show (a3.put (some 18) (.bool true)).tmps = a3.tmps.setIfInBounds 18 (.bool true) from rfl, arr_put hN3 (by decide), if_pos rfl]
      exact wpIn_cond_true t18 (wpIn_ret ⟨hD3, _, results_none rfl _ _ _, ⟨_, rfl⟩, .inr hJ3⟩)

theorem kt_slices_Reverse_L_string_string_ (l r : List Bs) (H : m_slices_Reverse_string l = some r) : FnG Tryz.prog 93 [.row 0 l.length] [(0, .rowA undef 9 1 (List.map C_string l))] (.dat (resOf [])) [(0, .rowA undef 9 1 (List.map C_string r))] := by
  obtain ⟨hl, hr⟩ := gif H
  cases hr
  refine fnG_turn (fun s : Bs => Value.string ⟨s.toArray⟩) l.reverse l List.length_reverse (by kernel_rfl) (fun _ => rfl) (fun blk cap w hH hb => ?_) (fun h w => ?_)
  · refine (Tryz.slices_Reverse_string blk 0 cap l w hH (by omega)).mono ?_
    rintro r w' ⟨rfl, n, rfl⟩
    exact ⟨rfl, n, #[], by simp [Sort.grow]; rfl⟩
  · exact Tryz.slices_Reverse_string_empty none 0 w
theorem k_gateref2_digits0 (n1 : Int) (r : (Bs)) (H : m_gateref2_digits0 n1 = some r) : Fn Tryz.prog 161 [vval (.int .u8 n1)] (resOf [vstr r]) := by
  refine ⟨by kernel_rfl, pure_of (us := [vstr r]) Tryz.func161 rfl rfl rfl rfl fun X hN => ?_⟩
  unfold m_gateref2_digits0 at H
  refine awp_seq ?_
  refine awp_plain hN rfl ?_
  refine seq_run0 (stp_assign (.dat _) rfl) ?_
  refine awp_seq ?_
  refine awp_plain hN rfl ?_
  refine seq_run0 (stp_move (.dat _) rfl) ?_
  refine seq_run0 (stp_move (.dat _) rfl) ?_
  refine seq_run0 (stp_wrap _ rfl rfl (.inl ⟨rfl, rfl⟩)) ?_
  obtain ⟨l2, h3, H⟩ := bnd H
  refine seq_run0 (t_subSK tyU9 rfl rfl rfl h3) ?_
  refine seq_run0 (stp_assign (.dat _) rfl) ?_
  refine awp_ret ?_
  cases H
  exact ⟨trivial, .inl rfl, trivial⟩
theorem k_gateref2_coded (c1 : Int) (r : (Bs)) (H : m_gateref2_coded c1 = some r) : Fn Tryz.prog 91 [vval (.int .u8 c1)] (resOf [vstr r]) := by
  refine ⟨by kernel_rfl, pure_of (us := [vstr r]) Tryz.func91 rfl rfl rfl rfl fun X hN => ?_⟩
  unfold m_gateref2_coded at H
  refine awp_seq ?_
  refine awp_plain hN rfl ?_
  refine seq_run0 (stp_assign (.dat _) rfl) ?_
  refine awp_seq ?_
  refine awp_plain hN rfl ?_
  refine seq_run0 (stp_move (.dat _) rfl) ?_
  refine seq_run0 (stp_dat (stp_shr rfl rfl (by decide)) rfl) ?_
  obtain ⟨r2, h3, H⟩ := bnd H
  refine seq_run0 (stp_call (k_gateref2_digits0 (shr_ .u8 c1 4) r2 h3) ⟨.inl rfl, trivial⟩) ?_
  obtain ⟨h4, H⟩ := gif H
  refine seq_run0 (stp_sadd rfl rfl (Nat.le_trans h4 (by decide))) ?_
  refine seq_run0 (stp_move (.dat _) rfl) ?_
  refine seq_run0 (stp_dat (stp_and rfl rfl) rfl) ?_
  obtain ⟨r5, h6, H⟩ := bnd H
  refine seq_run0 (stp_call (k_gateref2_digits0 (and_ .u8 c1 15) r5 h6) ⟨.inl rfl, trivial⟩) ?_
  obtain ⟨h7, H⟩ := gif H
  refine seq_run0 (stp_sadd rfl rfl (Nat.le_trans h7 (by decide))) ?_
  refine seq_run0 (stp_assign (.dat _) rfl) ?_
  refine awp_ret ?_
  cases H
  exact ⟨trivial, .inl rfl, trivial⟩
theorem k_gateref2_PathOf (v1 : Bs) (r : (Bs × Int)) (H : m_gateref2_PathOf v1 = some r) : Fn Tryz.prog 27 [vstr v1] (resOf [vstr r.1, vint r.2]) := by
  refine ⟨by kernel_rfl, pure_ofF (us := [vstr r.1, vint r.2]) Tryz.func27 rfl rfl rfl rfl fun X hN hR => ?_⟩
  unfold m_gateref2_PathOf at H
  refine awpf_seq hR ?_
  refine awp_plain hN rfl ?_
  refine seq_run0 (stp_assign (.dat _) rfl) ?_
  refine seq_run0 (stp_assign (.dat _) rfl) ?_
  refine awpf_seq hR ?_
  refine awp_seq ?_
  refine awp_plain hN rfl ?_
  refine seq_run0 (stp_move (.dat _) rfl) ?_
  obtain ⟨r2, h3, H⟩ := bnd H
  refine seq_run0 (stp_call (k_gateref2_pathForm v1 r2 h3) ⟨.inl rfl, trivial⟩) ?_
  refine seq_run0 (stp_not rfl) ?_
  refine awp_cond _ rfl (fun h4 => ?_) (fun h4 => ?_)
  · replace H := ift h4 H
    refine awp_seq ?_
    refine awp_plain hN rfl ?_
    refine seq_run0 (stp_assign (.dat _) rfl) ?_
    refine seq_run0 (stp_assign (.dat _) rfl) ?_
    refine awp_ret ?_
    cases H
    exact ⟨[(2, .dat (vstr [])), (3, .dat (vint 3))], [], ⟨rfl, rfl, trivial⟩, trivial, rfl, rfl, ⟨.inl rfl, .inl rfl, trivial⟩⟩
  · replace H := iff_ h4 H
    refine awp_skip ?_
    refine awpf_seq hR ?_
    refine awp_plain hN rfl ?_
    refine seq_run0 (stp_move (.dat _) rfl) ?_
    obtain ⟨r5, h6, H⟩ := bnd H
    refine seq_run0 (stp_call (k_gateref2_units v1 r5 h6) ⟨.inl rfl, trivial⟩) ?_
    refine seq_run0 (stp_move (.dat _) rfl) ?_
    refine seq_run0 (stp_ext rfl rfl) ?_
    refine seq_run0 (stp_ext rfl rfl) ?_
    refine seq_run0 (stp_assign (.dat _) rfl) ?_
    refine seq_run0 (stp_assign (.dat _) rfl) ?_
    refine awpf_seq hR ?_
    refine awp_seq ?_
    refine awp_plain hN rfl ?_
    refine seq_run0 (stp_move (.dat _) rfl) ?_
    refine seq_run0 (stp_not rfl) ?_
    refine awp_cond _ rfl (fun h7 => ?_) (fun h7 => ?_)
    · replace H := ift h7 H
      refine awp_seq ?_
      refine awp_plain hN rfl ?_
      refine seq_run0 (stp_assign (.dat _) rfl) ?_
      refine seq_run0 (stp_assign (.dat _) rfl) ?_
      refine awp_ret ?_
      cases H
      exact ⟨[(2, .dat (vstr [])), (3, .dat (vint 9))], [], ⟨rfl, rfl, trivial⟩, trivial, rfl, rfl, ⟨.inl rfl, .inl rfl, trivial⟩⟩
    · replace H := iff_ h7 H
      refine awp_skip ?_
      refine awpf_seq hR ?_
      refine awp_plain hN rfl ?_
      refine seq_run0 (stp_assign (.dat _) rfl) ?_
      refine awpf_seq hR ?_
      refine awp_seq ?_
      refine awp_plain hN rfl ?_
      refine seq_run0 (stp_move (.dat _) rfl) ?_
      refine seq_run0 (t_len tyU97 rfl) ?_
      refine seq_run0 (stp_move (.dat _) rfl) ?_
      refine awp_block ?_
      obtain ⟨h11, H⟩ := gif H
      refine awp_forL (fun (k9 : Nat) (s : Bs) => [(2, .dat (vstr [])), (3, .dat (vint 0)), (6, .dat (vstr s)), (24, .dat (vlst (List.map C_gateref2_unit r5.1))), (25, .dat (vint (r5.1.length : Int))), (26, .dat (vint (k9 : Int)))]) (fun (k9 : Nat) (s : Bs) => []) [] H ⟨rfl, rfl, rfl, rfl, rfl, rfl, trivial⟩ trivial (fun _ _ => rfl) ?_ ?_
      · rintro v8 H
        replace H : gateref2_PathOf_E1 v8 = some r := H
        unfold gateref2_PathOf_E1 at H
        refine awp_seq ?_
        refine awp_plain hN rfl ?_
        refine seq_run0 (stp_lss rfl rfl) ?_
        refine awp_seq ?_
        refine awp_cond _ rfl (fun h => (lt_t h).elim) (fun h => ?_)
        refine awp_exit ?_
        refine awpf_seq hR ?_
        refine awp_plain hN rfl ?_
        refine seq_run0 (stp_move (.dat _) rfl) ?_
        obtain ⟨l13, h14, H⟩ := bnd H
        refine seq_run0 (t_subS tyU9 rfl rfl rfl h14) ?_
        obtain ⟨r15, h16, H⟩ := bnd H
        refine seq_run0 (stp_call (k_strings_Split l13 [47] r15 h16) ⟨.inl rfl, .inl rfl, trivial⟩) ?_
        refine seq_run2 (stp_alloc 1 tyZ41 rfl) rfl ?_
        refine seq_run2 (stp_store1 tyS41 rfl rfl rfl rfl) rfl ?_
        refine awpf_seq hR ?_
        refine awp_plain hN rfl ?_
        refine seq_run2 (stp_alloc 2 tyZ41 rfl) rfl ?_
        refine awpf_seq hR ?_
        refine awp_plain hN rfl ?_
        refine seq_run2 (stp_alloc 3 tyZ3 rfl) rfl ?_
        refine seq_run2 (stp_store1 tyS3 rfl rfl rfl rfl) rfl ?_
        refine awpf_range hR ?_
        refine awp_plain hN rfl ?_
        refine seq_run1 (stp_load1 tyS41 rfl rfl) rfl ?_
        refine seq_run0 (stp_call (k_slices_Backward_L_string_string_ r15) ⟨.inl rfl, trivial⟩) ?_
        refine ⟨rfl, ?_⟩
        refine rangeP_nilB 2 0 4 9 1 rfl rfl rfl rfl ?_
        obtain ⟨h20, H⟩ := gif H
        refine rangeP (s0 := (0, ([] : List Bs))) hR hN [(2, .dat (vstr [])), (3, .dat (vint 0)), (9, .ptr 1 0), (10, .ptr 2 0), (11, .ptr 3 0), (60, .dat (vfn 162 [vcell [[vlst (List.map C_string r15)]] 0 0]))] [(1, .box none 41 [.dat (vlst (List.map C_string r15))]), (2, .box none 41 [.row 4 0]), (3, .box none 3 [.dat (vint 0)]), (4, .row 9 1 (List.map C_string ([] : List Bs)))] (fun (s : Int × (List Bs)) => [(1, .box none 41 [.dat (vlst (List.map C_string r15))]), (2, .box none 41 [.row 4 s.2.length]), (3, .box none 3 [.dat (vint s.1)]), (4, .row 9 1 (List.map C_string s.2))]) it_slices_Backward_L_string_string_ (fun _ => rfl) (enters_of Tryz.func162 (by kernel_rfl) rfl) rfl h20 H ⟨rfl, rfl, rfl, rfl, rfl, rfl, trivial⟩ ⟨rfl, rfl, rfl, rfl, trivial⟩ rfl rfl (fun _ => rfl) (fun _ => rfl) (fun _ _ => rfl) (fun _ _ => rfl) (fun _ => rfl) (fun _ => rfl) (by decide) (by decide) ?_ ?_
        · rintro A X k21 x22 ⟨c17, l18⟩ q19 hN h23 h24 H hq19
          replace H : gateref2_PathOf_L2 r15 k21 x22 c17 l18 = some q19 := H
          unfold gateref2_PathOf_L2 at H
          refine awp_seq ?_
          refine awp_plain hN rfl ?_
          refine seq_run0 (stp_assign (.dat _) rfl) ?_
          refine awp_plain hN rfl ?_
          refine seq_run0 (stp_assign (.dat _) rfl) ?_
          refine ⟨rfl, [(9, .ptr 1 0), (10, .ptr 2 0), (11, .ptr 3 0), (12, .dat (vint (k21 : Int))), (13, .dat (vstr x22))], [(1, .box (some (A 1)) 41 [.dat (vlst (List.map C_string r15))]), (2, .box (some (A 2)) 41 [.row 4 l18.length]), (3, .box (some (A 3)) 3 [.dat (vint c17)]), (4, .row 9 1 (List.map C_string l18))], ⟨rfl, rfl, rfl, rfl, rfl, trivial⟩, ⟨rfl, rfl, rfl, rfl, trivial⟩, rfl, rfl, rfl, fun X hN => ?_⟩
          refine awp_block ?_
          refine awp_block ?_
          refine awp_seq ?_
          refine awp_plain hN rfl ?_
          refine seq_run0 (stp_move (.dat _) rfl) ?_
          refine seq_run0 (stp_seql rfl rfl) ?_
          refine seq_run0 (stp_move (.dat _) rfl) ?_
          refine seq_aF rfl rfl (fun hc => stp_move (.dat _) rfl) ?_
          refine seq_aF rfl rfl (fun hc => stp_seql (cnd (c := (!(decide (x22 = [46])))) hc) rfl) ?_
          refine seq_run0 (stp_pick_or rfl rfl (fun hb => (cnd (c := (!(decide (x22 = [46])))) (notI hb)))) ?_
          refine seq_run0 (stp_assign (.dat _) rfl) ?_
          refine awp_cond _ rfl (fun h25 => ?_) (fun h25 => ?_)
          · replace H := ift h25 H
            refine awp_joinE (ι := (List Bs)) (fun i => [(9, .ptr 1 0), (10, .ptr 2 0), (11, .ptr 3 0), (13, .dat (vstr x22))]) (fun i => [(1, .box (some (A 1)) 41 [.dat (vlst (List.map C_string r15))]), (2, .box (some (A 2)) 41 [.row 4 i.length]), (3, .box (some (A 3)) 3 [.dat (vint c17)]), (4, .row 9 1 (List.map C_string i))]) (fun i => gateref2_PathOf_J3 c17 x22 i = some q19) (fun i => rfl) ?_ ?_
            · skip
              refine awp_seq ?_
              refine awp_plain hN rfl ?_
              refine seq_run0 (stp_move (.dat _) rfl) ?_
              refine seq_run1 (stp_load1 tyS41 rfl rfl) rfl ?_
              refine seq_run0 (t_len tyU41 rfl) ?_
              refine seq_run0 (stp_wrap _ rfl rfl (.inr (.inl ⟨rfl, rfl⟩))) ?_
              refine seq_run0 (stp_eql rfl rfl) ?_
              refine awp_cond _ rfl (fun h26 => ?_) (fun h26 => ?_)
              · replace H := ift h26 H
                refine awp_plain hN rfl ?_
                refine seq_run1 (stp_load1 tyS41 rfl rfl) rfl ?_
                refine seq_run0 (stp_dat (u' := vlst (List.map C_string [[]])) (stp_lit [[_]] tyL41 ⟨rfl, .inl ⟨_, rfl, rfl, rfl⟩, rfl, trivial⟩ rfl rfl) rfl) ?_
                obtain ⟨h27, H⟩ := gif H
                refine seq_run2 (t_app tyL41 (fun _ => rfl) rfl rfl rfl ⟨by simp, by simpa using h27⟩ rfl) rfl ?_
                refine seq_run4 (stp_storeS tyS41 rfl rfl (by rw [List.length_map]) rfl) rfl rfl ?_
                exact ⟨(l18 ++ ([[]])), H, ⟨rfl, rfl, rfl, rfl, trivial⟩, ⟨rfl, rfl, rfl, rfl, trivial⟩⟩
              · replace H := iff_ h26 H
                refine awp_skip ?_
                exact ⟨l18, H, ⟨rfl, rfl, rfl, rfl, trivial⟩, ⟨rfl, rfl, rfl, rfl, trivial⟩⟩
            · rintro l28 H
              replace H : gateref2_PathOf_J3 c17 x22 l28 = some q19 := H
              unfold gateref2_PathOf_J3 at H
              refine awp_seq ?_
              refine awp_plain hN rfl ?_
              refine seq_run0 (stp_move (.dat _) rfl) ?_
              refine seq_run0 (stp_seql rfl rfl) ?_
              refine awp_cond _ rfl (fun h29 => ?_) (fun h29 => ?_)
              · replace H := ift h29 H
                refine awp_plain hN rfl ?_
                refine seq_run1 (stp_load1 tyS3 rfl rfl) rfl ?_
                refine seq_run0 (stp_wrap _ rfl rfl (.inl ⟨rfl, rfl⟩)) ?_
                refine seq_run2 (stp_store1 tyS3 rfl rfl rfl rfl) rfl ?_
                exact ⟨_, backl H, ⟨rfl, rfl, rfl, rfl, trivial⟩⟩
              · replace H := iff_ h29 H
                refine awp_skip ?_
                exact ⟨_, backl H, ⟨rfl, rfl, rfl, rfl, trivial⟩⟩
          · replace H := iff_ h25 H
            refine awp_seq ?_
            refine awp_plain hN rfl ?_
            refine seq_run1 (stp_load1 tyS3 rfl rfl) rfl ?_
            refine seq_run0 (stp_gtr rfl rfl) ?_
            refine seq_run0 (stp_assign (.dat _) rfl) ?_
            refine awp_cond _ rfl (fun h30 => ?_) (fun h30 => ?_)
            · replace H := ift h30 H
              refine awp_plain hN rfl ?_
              refine seq_run1 (stp_load1 tyS3 rfl rfl) rfl ?_
              refine seq_run0 (stp_wrap _ rfl rfl (.inr (.inl ⟨rfl, rfl⟩))) ?_
              refine seq_run2 (stp_store1 tyS3 rfl rfl rfl rfl) rfl ?_
              exact ⟨_, backl H, ⟨rfl, rfl, rfl, rfl, trivial⟩⟩
            · replace H := iff_ h30 H
              refine awp_plain hN rfl ?_
              refine seq_run1 (stp_load1 tyS41 rfl rfl) rfl ?_
              refine seq_run0 (stp_move (.dat _) rfl) ?_
              refine seq_run0 (stp_dat (u' := vlst (List.map C_string [x22])) (stp_lit [[_]] tyL41 ⟨rfl, .inl ⟨_, rfl, rfl, rfl⟩, rfl, trivial⟩ rfl rfl) rfl) ?_
              obtain ⟨h31, H⟩ := gif H
              refine seq_run2 (t_app tyL41 (fun _ => rfl) rfl rfl rfl ⟨by simp, by simpa using h31⟩ rfl) rfl ?_
              refine seq_run4 (stp_storeS tyS41 rfl rfl (by rw [List.length_map]) rfl) rfl rfl ?_
              exact ⟨_, backl H, ⟨rfl, rfl, rfl, rfl, trivial⟩⟩
        · rintro A X ⟨c17, l18⟩ hN hR H
          replace H : gateref2_PathOf_E2 c17 l18 = some r := H
          unfold gateref2_PathOf_E2 at H
          refine awp_seq ?_
          refine awp_plain hN rfl ?_
          refine seq_run1 (stp_load1 tyS41 rfl rfl) rfl ?_
          obtain ⟨r32, h33, H⟩ := bnd H
          refine seq_callG (rn [(0, 4)]) [(0, _, _, some _)] [] (kt_slices_Reverse_L_string_string_ l18 r32 h33) ⟨rfl, trivial⟩ ⟨.inl (.inl rfl), trivial⟩ ⟨⟨⟨rfl, rfl, rfl⟩, by simp [stayP, reverseS_len h33]⟩, trivial⟩ rfl ?_
          refine awp_seq ?_
          refine awp_plain hN rfl ?_
          refine seq_run1 (stp_load1 tyS41 rfl rfl) rfl ?_
          obtain ⟨r34, h35, H⟩ := bnd H
          refine seq_run1 (stp_callL (id := 4) (es := List.map C_string r32) (k_strings_Join r32 [47] r34 h35) ⟨.inr ⟨(congrArg (Slot.row 4) (by rw [List.length_map]; exact (reverseS_len h33).symm) : Slot.row 4 l18.length = _), rfl⟩, .inl (.inl (.inl rfl)), trivial⟩ (fun _ _ _ _ h => h)) rfl ?_
          obtain ⟨h36, H⟩ := gif H
          refine seq_run0 (stp_sadd rfl rfl (Nat.le_trans h36 (by decide))) ?_
          refine seq_run0 (stp_assign (.dat _) rfl) ?_
          refine seq_run0 (stp_assign (.dat _) rfl) ?_
          refine awp_ret ?_
          cases H
          exact ⟨.inr rfl, [(2, .dat (vstr ([47] ++ r34))), (3, .dat (vint 0))], [], ⟨rfl, rfl, trivial⟩, trivial, rfl, rfl, ⟨.inl rfl, .inl rfl, trivial⟩⟩
      · rintro k9 x12 v8 q10 h37 h38 H hq10
        replace H : gateref2_PathOf_L1 k9 x12 v8 = some q10 := H
        unfold gateref2_PathOf_L1 at H
        refine awp_seq ?_
        refine awp_plain hN rfl ?_
        refine seq_run0 (stp_lss rfl rfl) ?_
        refine awp_seq ?_
        refine awp_cond _ rfl (fun h => ?_) (fun h => (lt_f h37 h).elim)
        refine awp_skip ?_
        refine awp_joinE (ι := Bs) (fun i => [(2, .dat (vstr [])), (3, .dat (vint 0)), (6, .dat (vstr i)), (24, .dat (vlst (List.map C_gateref2_unit r5.1))), (25, .dat (vint (r5.1.length : Int))), (26, .dat (vint (k9 : Int)))]) (fun i => []) (fun i => gateref2_PathOf_J4 i = some q10) (fun i => rfl) ?_ ?_
        · skip
          refine awp_block ?_
          refine awp_seq ?_
          refine awp_plain hN rfl ?_
          refine seq_run0 (t_idx tyE97 (fun _ => rfl) rfl rfl h38) ?_
          refine seq_run0 (stp_loadEA tyS101 rfl (map_at h38) rfl) ?_
          refine seq_run2 (stp_alloc 5 tyZ101 rfl) rfl ?_
          refine seq_run2 (stp_storeW tyS101 rfl rfl rfl rfl) rfl ?_
          refine awp_joinE (ι := Bool) (fun i => [(2, .dat (vstr [])), (3, .dat (vint 0)), (6, .dat (vstr v8)), (8, .ptr 5 0), (24, .dat (vlst (List.map C_gateref2_unit r5.1))), (25, .dat (vint (r5.1.length : Int))), (26, .dat (vint (k9 : Int))), (43, .dat (vbool i))]) (fun i => [(5, .box none 101 [.dat (vval (.int .u8 x12.c_)), .dat (vbool x12.plain_)])]) (fun i => gateref2_PathOf_J5 v8 x12 i = some q10) (fun i => rfl) ?_ ?_
          · skip
            refine awp_plain hN rfl ?_
            refine seq_run0 (stp_fldP tyF101_1 rfl) ?_
            refine seq_run1 (stp_load1 tyS4 rfl rfl) rfl ?_
            refine seq_run0 (stp_move (.dat _) rfl) ?_
            refine seq_split (j := 2) rfl rfl (fun h39 => ?_) (fun h39 => ?_) rfl
            · have h40 := un3 h39
              replace H := iff_ h40 H
              refine seq_g0 rfl rfl h39 (stp_fldP tyF101_0 rfl) ?_
              refine seq_g1 rfl rfl h39 (stp_load1 tyS5 rfl rfl) rfl ?_
              refine seq_g0 rfl rfl h39 (stp_conv tyU5 tyU21 rfl) ?_
              refine seq_g0 rfl rfl h39 (stp_convR tyU21 rfl tyU9 rfl) ?_
              obtain ⟨r41, h42, H⟩ := bnd H
              refine seq_g0 rfl rfl h39 (stp_call (k_gateref2_only (encL (IntKind.wrap .i32 x12.c_)) [97, 98, 99, 100, 101, 102, 103, 104, 105, 106, 107, 108, 109, 110, 111, 112, 113, 114, 115, 116, 117, 118, 119, 120, 121, 122, 65, 66, 67, 68, 69, 70, 71, 72, 73, 74, 75, 76, 77, 78, 79, 80, 81, 82, 83, 84, 85, 86, 87, 88, 89, 90, 48, 49, 50, 51, 52, 53, 54, 55, 56, 57, 45, 46, 95, 126] r41 h42) ⟨.inl rfl, .inl rfl, trivial⟩) ?_
              refine seq_g0 rfl rfl h39 (stp_move (.dat _) rfl) ?_
              refine seq_split (j := 8) rfl rfl (fun h43 => ?_) (fun h43 => ?_) rfl
              · have h44 := un1 h43
                replace H := ift h44 H
                refine seq_g0 rfl rfl h43 (stp_fldP tyF101_0 rfl) ?_
                refine seq_g1 rfl rfl h43 (stp_load1 tyS5 rfl rfl) rfl ?_
                refine seq_g0 rfl rfl h43 (stp_lss rfl rfl) ?_
                refine seq_g0 rfl rfl h39 (stp_pick_t rfl (bTT h44) rfl) ?_
                refine seq_run0 (stp_pick_f rfl (bFF h40) rfl) ?_
                exact ⟨decide (x12.c_ < 128), H, ⟨rfl, rfl, rfl, rfl, rfl, rfl, rfl, rfl, trivial⟩, ⟨rfl, trivial⟩⟩
              · have h45 := un2 h43
                replace H := iff_ h45 H
                refine seq_skip rfl rfl h43 ?_
                refine seq_skip rfl rfl h43 ?_
                refine seq_skip rfl rfl h43 ?_
                refine seq_g0 rfl rfl h39 (stp_pick_f rfl (bFF h45) rfl) ?_
                refine seq_run0 (stp_pick_f rfl (bFF h40) rfl) ?_
                exact ⟨false, H, ⟨rfl, rfl, rfl, rfl, rfl, rfl, rfl, rfl, trivial⟩, ⟨rfl, trivial⟩⟩
            · have h46 := un4 h39
              replace H := ift h46 H
              refine seq_skip rfl rfl h39 ?_
              refine seq_skip rfl rfl h39 ?_
              refine seq_skip rfl rfl h39 ?_
              refine seq_skip rfl rfl h39 ?_
              refine seq_skip rfl rfl h39 ?_
              refine seq_skip rfl rfl h39 ?_
              refine seq_skipU rfl rfl ?_
              refine seq_skipU rfl rfl ?_
              refine seq_skipU rfl rfl ?_
              refine seq_skip rfl rfl h39 ?_
              refine seq_run0 (stp_pick_t rfl (bTT h46) rfl) ?_
              exact ⟨true, H, ⟨rfl, rfl, rfl, rfl, rfl, rfl, rfl, rfl, trivial⟩, ⟨rfl, trivial⟩⟩
          · rintro v47 H
            replace H : gateref2_PathOf_J5 v8 x12 v47 = some q10 := H
            unfold gateref2_PathOf_J5 at H
            refine awp_cond _ rfl (fun h48 => ?_) (fun h48 => ?_)
            · replace H := ift h48 H
              refine awp_plain hN rfl ?_
              refine seq_run0 (stp_move (.dat _) rfl) ?_
              refine seq_run0 (stp_fldP tyF101_0 rfl) ?_
              refine seq_run1 (stp_load1 tyS5 rfl rfl) rfl ?_
              refine seq_run0 (stp_dat (u' := vlst (List.map C_uint8 [x12.c_])) (stp_lit [[_]] tyL46 ⟨rfl, .inl ⟨_, rfl, rfl, rfl⟩, rfl, trivial⟩ rfl rfl) rfl) ?_
              refine seq_run0 (stp_convB (C := C_uint8) tyU46 tyU5 tyU9 (fun _ => rfl) rfl) ?_
              obtain ⟨h49, H⟩ := gif H
              refine seq_run0 (stp_sadd rfl rfl (Nat.le_trans h49 (by decide))) ?_
              refine seq_run0 (stp_assign (.dat _) rfl) ?_
              exact ⟨(v8 ++ (strN [x12.c_])), H, ⟨rfl, rfl, rfl, rfl, rfl, rfl, trivial⟩, trivial⟩
            · replace H := iff_ h48 H
              refine awp_plain hN rfl ?_
              refine seq_run0 (stp_move (.dat _) rfl) ?_
              refine seq_run0 (stp_fldP tyF101_0 rfl) ?_
              refine seq_run1 (stp_load1 tyS5 rfl rfl) rfl ?_
              obtain ⟨r50, h51, H⟩ := bnd H
              refine seq_run0 (stp_call (k_gateref2_coded x12.c_ r50 h51) ⟨.inl rfl, trivial⟩) ?_
              obtain ⟨h52, H⟩ := gif H
              refine seq_run0 (stp_sadd rfl rfl (Nat.le_trans h52 (by decide))) ?_
              refine seq_run0 (stp_assign (.dat _) rfl) ?_
              exact ⟨(v8 ++ r50), H, ⟨rfl, rfl, rfl, rfl, rfl, rfl, trivial⟩, trivial⟩
        · rintro v53 H
          replace H : gateref2_PathOf_J4 v53 = some q10 := H
          unfold gateref2_PathOf_J4 at H
          refine awp_plain hN rfl ?_
          refine seq_run0 (stp_add rfl rfl (by omega)) ?_
          refine seq_run0 (stp_move (.dat _) rfl) ?_
          exact ⟨_, backl H, ⟨rfl, rfl, rfl, rfl, rfl, rfl, trivial⟩, trivial⟩
theorem k_message_decoded (s1 : Bs) (plus2 : Bool) (r : (Bs × Bool)) (H : m_message_decoded s1 plus2 = some r) : Fn Tryz.prog 94 [vstr s1, vbool plus2] (resOf [vstr r.1, vbool r.2]) := by
  refine ⟨by kernel_rfl, pure_of (us := [vstr r.1, vbool r.2]) Tryz.func94 rfl rfl rfl rfl fun X hN => ?_⟩
  unfold m_message_decoded at H
  refine awp_seq ?_
  refine awp_plain hN rfl ?_
  refine seq_run0 (stp_assign (.dat _) rfl) ?_
  refine seq_run0 (stp_assign (.dat _) rfl) ?_
  refine awp_seq ?_
  refine awp_plain hN rfl ?_
  refine seq_run2 (stp_alloc 1 tyZ110 rfl) rfl ?_
  refine awp_wkB 1 0 (.nptr 1) rfl rfl nptr_nil ?_
  refine awp_nilrowB 1 1 2 5 1 rfl rfl rfl rfl ?_
  refine awp_joinE (ι := (List Int)) (fun i => [(6, .ptr 1 0)]) (fun i => [(1, .box none 110 [.nptr 1, .row 2 i.length]), (2, .row 5 1 (List.map C_uint8 i))]) (fun i => message_decoded_J1 i = some r) (fun i => rfl) ?_ ?_
  · refine awp_cv ?_
    refine awp_seq ?_
    refine awp_plain hN rfl ?_
    refine seq_run0 (stp_assign (.dat _) rfl) ?_
    refine awp_block ?_
    refine awp_iter (fun (s : Int × (List Int)) => [(0, .dat (vstr s1)), (1, .dat (vbool plus2)), (6, .ptr 1 0), (7, .dat (vint s.1))]) (fun (s : Int × (List Int)) => [(1, .box none 110 [.nptr 1, .row 2 s.2.length]), (2, .row 5 1 (List.map C_uint8 s.2))]) (0, ([] : List Int)) H ⟨rfl, rfl, rfl, rfl, trivial⟩ ⟨rfl, rfl, trivial⟩ (fun _ => rfl) ?_
    rintro ⟨i3, l4⟩ q5 H hq5
    replace H : message_decoded_L2 s1 plus2 i3 l4 = some q5 := H
    unfold message_decoded_L2 at H
    refine awp_cv ?_
    refine awp_seq ?_
    refine awp_seq ?_
    refine awp_plain hN rfl ?_
    refine seq_run0 (stp_move (.dat _) rfl) ?_
    refine seq_run0 (stp_move (.dat _) rfl) ?_
    refine seq_run0 (stp_len_str tyU9 rfl) ?_
    refine seq_run0 (stp_lss rfl rfl) ?_
    refine awp_cond _ rfl (fun h6 => ?_) (fun h6 => ?_)
    · replace H := ift h6 H
      refine awp_skip ?_
      refine awp_joinE (ι := Int × (List Int)) (fun i => [(0, .dat (vstr s1)), (1, .dat (vbool plus2)), (6, .ptr 1 0), (7, .dat (vint i.1))]) (fun i => [(1, .box none 110 [.nptr 1, .row 6 i.2.length]), (6, .row 5 1 (List.map C_uint8 i.2))]) (fun i => message_decoded_J3 i.1 i.2 = some q5) (fun i => rfl) ?_ ?_
      · refine awp_cv ?_
        refine awp_block ?_
        refine awp_block ?_
        refine awp_seq ?_
        refine awp_plain hN rfl ?_
        refine seq_run0 (stp_move (.dat _) rfl) ?_
        refine seq_run0 (stp_move (.dat _) rfl) ?_
        obtain ⟨x7, h8, H⟩ := bnd H
        refine seq_run0 (t_byteI tyU9 rfl rfl h8) ?_
        refine seq_run0 (stp_eql rfl rfl) ?_
        refine seq_run0 (stp_move (.dat _) rfl) ?_
        refine seq_aT rfl rfl (fun hc => stp_move (.dat _) rfl) ?_
        refine seq_run0 (stp_pick_and rfl (fun hb => (cnd (c := (decide ((x7.toNat : Int) = 43))) hb)) rfl) ?_
        refine seq_run0 (stp_assign (.dat _) rfl) ?_
        refine awp_cond _ rfl (fun h9 => ?_) (fun h9 => ?_)
        · replace H := ift h9 H
          refine awp_plain hN rfl ?_
          obtain ⟨r10, h11, H⟩ := bnd H
          refine seq_callG (rn [(0, 1), (1, 2), (900, 3)]) [(0, _, _, some _), (1, _, _, none)] [(900, _)] (kb_strings_Builder_WriteByte l4 32 r10 h11) ⟨rfl, rfl, rfl, trivial⟩ ⟨.inl (.inl rfl), .inl (.inl rfl), trivial⟩ ⟨⟨⟨rfl, rfl⟩, trivial⟩, ⟨⟨rfl, rfl, rfl⟩, trivial⟩, trivial⟩ rfl ?_
          refine seq_end ?_
          show Cv _ _ _ _
          refine cv_ren (rn [(3, 6)]) [(0, .dat (vstr s1)), (1, .dat (vbool plus2)), (6, .ptr 1 0), (7, .dat (vint i3))] [(1, .box none 110 [.nptr 1, .row 3 r10.2.length]), (3, .row 5 1 (List.map C_uint8 r10.2))] ⟨rfl, rfl, rfl, rfl, trivial⟩ ⟨rfl, rfl, trivial⟩ rfl rfl ?_
          exact ⟨(i3, r10.2), H, ⟨rfl, rfl, rfl, rfl, trivial⟩, ⟨rfl, rfl, trivial⟩⟩
        · replace H := iff_ h9 H
          refine awp_seq ?_
          refine awp_plain hN rfl ?_
          refine seq_run0 (stp_move (.dat _) rfl) ?_
          refine seq_run0 (stp_move (.dat _) rfl) ?_
          refine seq_run0 (t_byteI tyU9 rfl rfl h8) ?_
          refine seq_run0 (stp_neq rfl rfl) ?_
          refine seq_run0 (stp_assign (.dat _) rfl) ?_
          refine awp_cond _ rfl (fun h12 => ?_) (fun h12 => ?_)
          · replace H := ift h12 H
            refine awp_plain hN rfl ?_
            refine seq_run0 (stp_move (.dat _) rfl) ?_
            refine seq_run0 (stp_move (.dat _) rfl) ?_
            refine seq_run0 (t_byteI tyU9 rfl rfl h8) ?_
            obtain ⟨r13, h14, H⟩ := bnd H
            refine seq_callG (rn [(0, 1), (1, 2), (900, 4)]) [(0, _, _, some _), (1, _, _, none)] [(900, _)] (kb_strings_Builder_WriteByte l4 (x7.toNat : Int) r13 h14) ⟨rfl, rfl, rfl, trivial⟩ ⟨.inl (.inl rfl), .inl (.inl rfl), trivial⟩ ⟨⟨⟨rfl, rfl⟩, trivial⟩, ⟨⟨rfl, rfl, rfl⟩, trivial⟩, trivial⟩ rfl ?_
            refine seq_end ?_
            show Cv _ _ _ _
            refine cv_ren (rn [(4, 6)]) [(0, .dat (vstr s1)), (1, .dat (vbool plus2)), (6, .ptr 1 0), (7, .dat (vint i3))] [(1, .box none 110 [.nptr 1, .row 4 r13.2.length]), (4, .row 5 1 (List.map C_uint8 r13.2))] ⟨rfl, rfl, rfl, rfl, trivial⟩ ⟨rfl, rfl, trivial⟩ rfl rfl ?_
            exact ⟨(i3, r13.2), H, ⟨rfl, rfl, rfl, rfl, trivial⟩, ⟨rfl, rfl, trivial⟩⟩
          · replace H := iff_ h12 H
            refine awp_seq ?_
            refine awp_plain hN rfl ?_
            refine seq_run0 (stp_move (.dat _) rfl) ?_
            refine seq_run0 (stp_move (.dat _) rfl) ?_
            obtain ⟨r15, h16, H⟩ := bnd H
            refine seq_run0 (stp_call (k_message_isUnit s1 i3 r15 h16) ⟨.inl rfl, .inl rfl, trivial⟩) ?_
            refine seq_run0 (stp_not rfl) ?_
            refine seq_run0 (stp_assign (.dat _) rfl) ?_
            refine awp_cond _ rfl (fun h17 => ?_) (fun h17 => ?_)
            · replace H := ift h17 H
              refine awp_seq ?_
              refine awp_plain hN rfl ?_
              refine seq_run0 (stp_assign (.dat _) rfl) ?_
              refine seq_run0 (stp_assign (.dat _) rfl) ?_
              refine awp_ret ?_
              replace H := retl H hq5
              cases H
              show Cv _ _ _ _
              refine cv_in ?_
              show Cv _ _ _ _
              refine cv_in ?_
              show Cv _ _ _ _
              refine cv_in ?_
              exact ⟨trivial, .inl rfl, .inl rfl, trivial⟩
            · replace H := iff_ h17 H
              refine awp_seq ?_
              refine awp_plain hN rfl ?_
              refine seq_run0 (stp_move (.dat _) rfl) ?_
              refine seq_run0 (stp_move (.dat _) rfl) ?_
              obtain ⟨r18, h19, H⟩ := bnd H
              refine seq_run0 (stp_call (k_message_unit s1 i3 r18 h19) ⟨.inl rfl, .inl rfl, trivial⟩) ?_
              obtain ⟨r20, h21, H⟩ := bnd H
              refine seq_callG (rn [(0, 1), (1, 2), (900, 5)]) [(0, _, _, some _), (1, _, _, none)] [(900, _)] (kb_strings_Builder_WriteByte l4 r18 r20 h21) ⟨rfl, rfl, rfl, trivial⟩ ⟨.inl (.inl rfl), .inl (.inl rfl), trivial⟩ ⟨⟨⟨rfl, rfl⟩, trivial⟩, ⟨⟨rfl, rfl, rfl⟩, trivial⟩, trivial⟩ rfl ?_
              refine awp_plain hN rfl ?_
              refine seq_run0 (stp_move (.dat _) rfl) ?_
              refine seq_run0 (stp_wrap _ rfl rfl (.inl ⟨rfl, rfl⟩)) ?_
              refine seq_run0 (stp_assign (.dat _) rfl) ?_
              refine seq_end ?_
              show Cv _ _ _ _
              refine cv_ren (rn [(5, 6)]) [(0, .dat (vstr s1)), (1, .dat (vbool plus2)), (6, .ptr 1 0), (7, .dat (vint (wr (i3 + 2))))] [(1, .box none 110 [.nptr 1, .row 5 r20.2.length]), (5, .row 5 1 (List.map C_uint8 r20.2))] ⟨rfl, rfl, rfl, rfl, trivial⟩ ⟨rfl, rfl, trivial⟩ rfl rfl ?_
              exact ⟨(wr (i3 + 2), r20.2), H, ⟨rfl, rfl, rfl, rfl, trivial⟩, ⟨rfl, rfl, trivial⟩⟩
      · rintro ⟨i22, l23⟩ H
        replace H : message_decoded_J3 i22 l23 = some q5 := H
        unfold message_decoded_J3 at H
        refine awp_plain hN rfl ?_
        refine seq_run0 (stp_move (.dat _) rfl) ?_
        refine seq_run0 (stp_wrap _ rfl rfl (.inl ⟨rfl, rfl⟩)) ?_
        refine seq_run0 (stp_assign (.dat _) rfl) ?_
        refine seq_end ?_
        show Cv _ _ _ _
        refine cv_ren (rn [(6, 2)]) [(0, .dat (vstr s1)), (1, .dat (vbool plus2)), (6, .ptr 1 0), (7, .dat (vint (wr (i22 + 1))))] [(1, .box none 110 [.nptr 1, .row 6 l23.length]), (6, .row 5 1 (List.map C_uint8 l23))] ⟨rfl, rfl, rfl, rfl, trivial⟩ ⟨rfl, rfl, trivial⟩ rfl rfl ?_
        exact ⟨_, backl H, ⟨rfl, rfl, rfl, rfl, trivial⟩, ⟨rfl, rfl, trivial⟩⟩
    · replace H := iff_ h6 H
      refine awp_exit ?_
      replace H := outl H hq5
      show Cv _ _ _ _
      refine cv_in ?_
      show Cv _ _ _ _
      refine cv_in ?_
      exact ⟨l4, H, ⟨rfl, trivial⟩, ⟨rfl, rfl, trivial⟩⟩
  · rintro l24 H
    replace H : message_decoded_J1 l24 = some r := H
    unfold message_decoded_J1 at H
    refine awp_seq ?_
    refine awp_plain hN rfl ?_
    obtain ⟨h25, H⟩ := gif H
    refine seq_callG (rn [(0, 1), (1, 2)]) [(0, _, _, none), (1, _, _, none)] [] (kbs_String h25 (C := C_uint8) (fun _ => rfl)) ⟨rfl, rfl, trivial⟩ ⟨.inl (.inl rfl), trivial⟩ ⟨⟨⟨rfl, rfl⟩, trivial⟩, ⟨⟨rfl, rfl, rfl⟩, trivial⟩, trivial⟩ rfl ?_
    refine seq_run0 (stp_assign (.dat _) rfl) ?_
    refine seq_run0 (stp_assign (.dat _) rfl) ?_
    refine awp_ret ?_
    cases H
    exact ⟨trivial, .inl rfl, .inl rfl, trivial⟩
theorem k_message_Segments (path1 : Bs) (r : ((List Bs) × Int)) (H : m_message_Segments path1 = some r) : Fn Tryz.prog 28 [vstr path1] (resOf [vlst (List.map C_string r.1), vint r.2]) := by
  refine ⟨by kernel_rfl, pure_of (us := [vlst (List.map C_string r.1), vint r.2]) Tryz.func28 rfl rfl rfl rfl fun X hN => ?_⟩
  unfold m_message_Segments at H
  refine awp_seq ?_
  refine awp_plain hN rfl ?_
  refine seq_run0 (stp_assign (.dat _) rfl) ?_
  refine seq_run0 (stp_assign (.dat _) rfl) ?_
  refine awp_seq ?_
  refine awp_plain hN rfl ?_
  refine seq_run0 (stp_move (.dat _) rfl) ?_
  obtain ⟨r2, h3, H⟩ := bnd H
  refine seq_run0 (stp_call (k_message_NormalPath path1 r2 h3) ⟨.inl rfl, trivial⟩) ?_
  refine seq_run0 (stp_move (.dat _) rfl) ?_
  refine seq_run0 (stp_ext rfl rfl) ?_
  refine seq_run0 (stp_ext rfl rfl) ?_
  refine seq_run0 (stp_assign (.dat _) rfl) ?_
  refine seq_run0 (stp_assign (.dat _) rfl) ?_
  refine awp_seq ?_
  refine awp_seq ?_
  refine awp_plain hN rfl ?_
  refine seq_run0 (stp_move (.dat _) rfl) ?_
  refine seq_run0 (stp_neq rfl rfl) ?_
  refine awp_cond _ rfl (fun h4 => ?_) (fun h4 => ?_)
  · replace H := ift h4 H
    refine awp_seq ?_
    refine awp_plain hN rfl ?_
    refine seq_run0 (stp_move (.dat _) rfl) ?_
    refine seq_run0 (stp_assign (.dat _) rfl) ?_
    refine seq_run0 (stp_assign (.dat _) rfl) ?_
    refine awp_ret ?_
    cases H
    exact ⟨trivial, .inr ⟨rfl, rfl⟩, .inl rfl, trivial⟩
  · replace H := iff_ h4 H
    refine awp_skip ?_
    refine awp_seq ?_
    refine awp_plain hN rfl ?_
    refine seq_run0 (stp_move (.dat _) rfl) ?_
    obtain ⟨l5, h6, H⟩ := bnd H
    refine seq_run0 (t_subS tyU9 rfl rfl rfl h6) ?_
    obtain ⟨r7, h8, H⟩ := bnd H
    refine seq_callG (rn [(900, 1)]) [] [(900, _)] (kr_strings_Split l5 [47] r7 h8) ⟨rfl, trivial⟩ ⟨.inl (.inl rfl), .inl (.inl rfl), trivial⟩ trivial rfl ?_
    refine seq_run0 (stp_assign (.row _ _) rfl) ?_
    refine awp_seq ?_
    refine awp_seq ?_
    refine awp_plain hN rfl ?_
    refine seq_run0 (stp_move (.row _ _) rfl) ?_
    refine seq_run1 (t_lenR tyU41 rfl rfl) rfl ?_
    refine seq_run0 (stp_gtr rfl rfl) ?_
    refine awp_cond _ rfl (fun h9 => ?_) (fun h9 => ?_)
    · replace H := ift h9 H
      refine awp_seq ?_
      refine awp_plain hN rfl ?_
      refine seq_run0 (stp_assign (.dat _) rfl) ?_
      refine seq_run0 (stp_assign (.dat _) rfl) ?_
      refine awp_ret ?_
      cases H
      exact ⟨trivial, .inr ⟨rfl, rfl⟩, .inl rfl, trivial⟩
    · replace H := iff_ h9 H
      refine awp_skip ?_
      refine awp_seq ?_
      refine awp_seq ?_
      refine awp_plain hN rfl ?_
      refine seq_run0 (stp_move (.row _ _) rfl) ?_
      refine seq_run1 (t_lenR tyU41 rfl rfl) rfl ?_
      refine seq_run0 (stp_move (.dat _) rfl) ?_
      refine awp_block ?_
      obtain ⟨h13, H⟩ := gif H
      refine awp_rng (fun (k11 : Nat) (s : (List Bs)) => [(6, .row 1 s.length), (23, .row 1 s.length), (24, .dat (vint (r7.length : Int))), (25, .dat (vint (k11 : Int)))]) (fun (k11 : Nat) (s : (List Bs)) => [(1, .row 9 1 (List.map C_string s))]) r7 H ⟨rfl, rfl, rfl, rfl, trivial⟩ ⟨rfl, trivial⟩ (fun _ _ => rfl) ?_ ?_
      · rintro l10 H
        replace H : message_Segments_E1 l10 = some r := H
        unfold message_Segments_E1 at H
        refine awp_seq ?_
        refine awp_plain hN rfl ?_
        refine seq_run0 (stp_lss rfl rfl) ?_
        refine awp_seq ?_
        refine awp_cond _ rfl (fun h => (lt_t h).elim) (fun h => ?_)
        refine awp_exit ?_
        refine awp_seq ?_
        refine awp_plain hN rfl ?_
        refine seq_run0 (stp_move (.row _ _) rfl) ?_
        refine seq_run0 (stp_assign (.row _ _) rfl) ?_
        refine seq_run0 (stp_assign (.dat _) rfl) ?_
        refine awp_ret ?_
        cases H
        exact ⟨trivial, t_slotv rfl rfl, .inl rfl, trivial⟩
      · rintro k11 l10 q12 h14 H hq12
        replace H : message_Segments_L1 k11 l10 = some q12 := H
        unfold message_Segments_L1 at H
        refine awp_seq ?_
        refine awp_plain hN rfl ?_
        refine seq_run0 (stp_lss rfl rfl) ?_
        refine awp_seq ?_
        refine awp_cond _ rfl (fun h => ?_) (fun h => (lt_f h14 h).elim)
        refine awp_skip ?_
        refine awp_seq ?_
        refine awp_block ?_
        refine awp_seq ?_
        refine awp_plain hN rfl ?_
        refine seq_run0 (stp_move (.dat _) rfl) ?_
        obtain ⟨x15, h16, H⟩ := bnd H
        refine seq_run1 (t_idxR tyE41 rfl rfl rfl h16) rfl ?_
        refine seq_run1 (t_loadR1 tyS9 rfl rfl h16 rfl) rfl ?_
        refine seq_run0 (stp_assign (.dat _) rfl) ?_
        refine seq_run0 (stp_assign (.dat _) rfl) ?_
        refine awp_plain hN rfl ?_
        refine seq_run0 (stp_move (.row _ _) rfl) ?_
        refine seq_run0 (stp_move (.dat _) rfl) ?_
        refine seq_run0 (stp_move (.dat _) rfl) ?_
        obtain ⟨r17, h18, H⟩ := bnd H
        refine seq_run0 (stp_call (k_message_decoded x15 false r17 h18) ⟨.inl rfl, .inl rfl, trivial⟩) ?_
        refine seq_run0 (stp_move (.dat _) rfl) ?_
        refine seq_run0 (stp_ext rfl rfl) ?_
        refine seq_run0 (stp_ext rfl rfl) ?_
        refine seq_run1 (t_idxR tyE41 rfl rfl rfl h16) rfl ?_
        refine seq_run2 (t_storeR r17.1 tyS9 rfl rfl rfl rfl h16 rfl rfl) rfl ?_
        refine awp_plain hN rfl ?_
        refine seq_run0 (stp_add rfl rfl (by omega)) ?_
        refine seq_run0 (stp_move (.dat _) rfl) ?_
        exact ⟨_, backl H, ⟨congrArg (Slot.row 1) (by simp), congrArg (Slot.row 1) (by simp), rfl, rfl, trivial⟩, ⟨rfl, trivial⟩⟩
theorem k_gateref2_bytesOf (s1 : Bs) (r : (Bs)) (H : m_gateref2_bytesOf s1 = some r) : Fn Tryz.prog 95 [vstr s1] (resOf [vstr r]) := by
  refine ⟨by kernel_rfl, pure_of (us := [vstr r]) Tryz.func95 rfl rfl rfl rfl fun X hN => ?_⟩
  unfold m_gateref2_bytesOf at H
  refine awp_seq ?_
  refine awp_plain hN rfl ?_
  refine seq_run0 (stp_assign (.dat _) rfl) ?_
  refine awp_seq ?_
  refine awp_plain hN rfl ?_
  refine seq_run0 (stp_move (.dat _) rfl) ?_
  obtain ⟨r2, h3, H⟩ := bnd H
  refine seq_run0 (stp_call (k_gateref2_units s1 r2 h3) ⟨.inl rfl, trivial⟩) ?_
  refine seq_run0 (stp_move (.dat _) rfl) ?_
  refine seq_run0 (stp_ext rfl rfl) ?_
  refine seq_run0 (stp_ext rfl rfl) ?_
  refine seq_run0 (stp_assign (.dat _) rfl) ?_
  refine seq_run0 (stp_assign (.dat _) rfl) ?_
  refine awp_seq ?_
  refine awp_plain hN rfl ?_
  refine seq_run0 (stp_assign (.dat _) rfl) ?_
  refine awp_seq ?_
  refine awp_seq ?_
  refine awp_plain hN rfl ?_
  refine seq_run0 (stp_move (.dat _) rfl) ?_
  refine seq_run0 (t_len tyU97 rfl) ?_
  refine seq_run0 (stp_move (.dat _) rfl) ?_
  refine awp_block ?_
  refine awp_nilrow 5 1 5 1 rfl rfl rfl ?_
  obtain ⟨h7, H⟩ := gif H
  refine awp_forL (fun (k5 : Nat) (s : (List Int)) => [(5, .row 1 s.length), (13, .dat (vlst (List.map C_gateref2_unit r2.1))), (14, .dat (vint (r2.1.length : Int))), (15, .dat (vint (k5 : Int)))]) (fun (k5 : Nat) (s : (List Int)) => [(1, .row 5 1 (List.map C_uint8 s))]) [] H ⟨congrArg (Slot.row 1) (by simp), rfl, rfl, rfl, trivial⟩ ⟨rfl, trivial⟩ (fun _ _ => rfl) ?_ ?_
  · rintro l4 H
    replace H : gateref2_bytesOf_E1 l4 = some r := H
    unfold gateref2_bytesOf_E1 at H
    refine awp_seq ?_
    refine awp_plain hN rfl ?_
    refine seq_run0 (stp_lss rfl rfl) ?_
    refine awp_seq ?_
    refine awp_cond _ rfl (fun h => (lt_t h).elim) (fun h => ?_)
    refine awp_exit ?_
    refine awp_seq ?_
    refine t_freeze 5 1 rfl rfl rfl ?_
    refine awp_plain hN rfl ?_
    refine seq_run0 (stp_move (.dat _) rfl) ?_
    refine seq_run0 (stp_convB (C := C_uint8) tyU46 tyU5 tyU9 (fun _ => rfl) rfl) ?_
    refine seq_run0 (stp_assign (.dat _) rfl) ?_
    refine awp_ret ?_
    cases H
    exact ⟨trivial, .inl rfl, trivial⟩
  · rintro k5 x8 l4 q6 h9 h10 H hq6
    replace H : gateref2_bytesOf_L1 k5 x8 l4 = some q6 := H
    unfold gateref2_bytesOf_L1 at H
    refine awp_seq ?_
    refine awp_plain hN rfl ?_
    refine seq_run0 (stp_lss rfl rfl) ?_
    refine awp_seq ?_
    refine awp_cond _ rfl (fun h => ?_) (fun h => (lt_f h9 h).elim)
    refine awp_skip ?_
    refine awp_seq ?_
    refine awp_block ?_
    refine awp_seq ?_
    refine awp_plain hN rfl ?_
    refine seq_run0 (t_idx tyE97 (fun _ => rfl) rfl rfl h10) ?_
    refine seq_run0 (stp_loadEA tyS101 rfl (map_at h10) rfl) ?_
    refine seq_run2 (stp_alloc 2 tyZ101 rfl) rfl ?_
    refine seq_run2 (stp_storeW tyS101 rfl rfl rfl rfl) rfl ?_
    refine awp_plain hN rfl ?_
    refine seq_run0 (stp_move (.row _ _) rfl) ?_
    refine seq_run0 (stp_fldP tyF101_0 rfl) ?_
    refine seq_run1 (stp_load1 tyS5 rfl rfl) rfl ?_
    refine seq_run0 (stp_dat (u' := vlst (List.map C_uint8 [x8.c_])) (stp_lit [[_]] tyL46 ⟨rfl, .inl ⟨_, rfl, rfl, rfl⟩, rfl, trivial⟩ rfl rfl) rfl) ?_
    obtain ⟨h11, H⟩ := gif H
    refine seq_run2 (t_app tyL46 (fun _ => rfl) rfl rfl rfl ⟨by simp, by simpa using h11⟩ rfl) rfl ?_
    refine seq_run0 (stp_assign (.row _ _) rfl) ?_
    refine awp_plain hN rfl ?_
    refine seq_run0 (stp_add rfl rfl (by omega)) ?_
    refine seq_run0 (stp_move (.dat _) rfl) ?_
    exact ⟨_, backl H, ⟨rfl, rfl, rfl, rfl, trivial⟩, ⟨rfl, trivial⟩⟩
theorem k_gateref2_SegmentsOf (path1 : Bs) (r : ((List Bs) × Int)) (H : m_gateref2_SegmentsOf path1 = some r) : Fn Tryz.prog 29 [vstr path1] (resOf [vlst (List.map C_string r.1), vint r.2]) := by
  refine ⟨by kernel_rfl, pure_of (us := [vlst (List.map C_string r.1), vint r.2]) Tryz.func29 rfl rfl rfl rfl fun X hN => ?_⟩
  unfold m_gateref2_SegmentsOf at H
  refine awp_seq ?_
  refine awp_plain hN rfl ?_
  refine seq_run0 (stp_assign (.dat _) rfl) ?_
  refine seq_run0 (stp_assign (.dat _) rfl) ?_
  refine awp_seq ?_
  refine awp_plain hN rfl ?_
  refine seq_run0 (stp_move (.dat _) rfl) ?_
  obtain ⟨r2, h3, H⟩ := bnd H
  refine seq_run0 (stp_call (k_gateref2_PathOf path1 r2 h3) ⟨.inl rfl, trivial⟩) ?_
  refine seq_run0 (stp_move (.dat _) rfl) ?_
  refine seq_run0 (stp_ext rfl rfl) ?_
  refine seq_run0 (stp_ext rfl rfl) ?_
  refine seq_run0 (stp_assign (.dat _) rfl) ?_
  refine seq_run0 (stp_assign (.dat _) rfl) ?_
  refine awp_seq ?_
  refine awp_seq ?_
  refine awp_plain hN rfl ?_
  refine seq_run0 (stp_move (.dat _) rfl) ?_
  refine seq_run0 (stp_neq rfl rfl) ?_
  refine awp_cond _ rfl (fun h4 => ?_) (fun h4 => ?_)
  · replace H := ift h4 H
    refine awp_seq ?_
    refine awp_plain hN rfl ?_
    refine seq_run0 (stp_move (.dat _) rfl) ?_
    refine seq_run0 (stp_assign (.dat _) rfl) ?_
    refine seq_run0 (stp_assign (.dat _) rfl) ?_
    refine awp_ret ?_
    cases H
    exact ⟨trivial, .inr ⟨rfl, rfl⟩, .inl rfl, trivial⟩
  · replace H := iff_ h4 H
    refine awp_skip ?_
    refine awp_seq ?_
    refine awp_plain hN rfl ?_
    refine seq_run0 (stp_assign (.dat _) rfl) ?_
    refine awp_seq ?_
    refine awp_seq ?_
    refine awp_plain hN rfl ?_
    refine seq_run0 (stp_move (.dat _) rfl) ?_
    obtain ⟨l5, h6, H⟩ := bnd H
    refine seq_run0 (t_subS tyU9 rfl rfl rfl h6) ?_
    obtain ⟨r7, h8, H⟩ := bnd H
    refine seq_run0 (stp_call (k_strings_Split l5 [47] r7 h8) ⟨.inl rfl, .inl rfl, trivial⟩) ?_
    refine seq_run0 (t_len tyU41 rfl) ?_
    refine seq_run0 (stp_move (.dat _) rfl) ?_
    refine awp_block ?_
    refine awp_nilrow 6 1 9 1 rfl rfl rfl ?_
    obtain ⟨h12, H⟩ := gif H
    refine awp_forL (fun (k10 : Nat) (s : (List Bs)) => [(6, .row 1 s.length), (19, .dat (vlst (List.map C_string r7))), (20, .dat (vint (r7.length : Int))), (21, .dat (vint (k10 : Int)))]) (fun (k10 : Nat) (s : (List Bs)) => [(1, .row 9 1 (List.map C_string s))]) [] H ⟨congrArg (Slot.row 1) (by simp), rfl, rfl, rfl, trivial⟩ ⟨rfl, trivial⟩ (fun _ _ => rfl) ?_ ?_
    · rintro l9 H
      replace H : gateref2_SegmentsOf_E1 l9 = some r := H
      unfold gateref2_SegmentsOf_E1 at H
      refine awp_seq ?_
      refine awp_plain hN rfl ?_
      refine seq_run0 (stp_lss rfl rfl) ?_
      refine awp_seq ?_
      refine awp_cond _ rfl (fun h => (lt_t h).elim) (fun h => ?_)
      refine awp_exit ?_
      refine awp_seq ?_
      refine awp_seq ?_
      refine awp_plain hN rfl ?_
      refine seq_run0 (stp_move (.row _ _) rfl) ?_
      refine seq_run1 (t_lenR tyU41 rfl rfl) rfl ?_
      refine seq_run0 (stp_gtr rfl rfl) ?_
      refine awp_cond _ rfl (fun h14 => ?_) (fun h14 => ?_)
      · replace H := ift h14 H
        refine awp_seq ?_
        refine awp_plain hN rfl ?_
        refine seq_run0 (stp_assign (.dat _) rfl) ?_
        refine seq_run0 (stp_assign (.dat _) rfl) ?_
        refine awp_ret ?_
        cases H
        exact ⟨trivial, .inr ⟨rfl, rfl⟩, .inl rfl, trivial⟩
      · replace H := iff_ h14 H
        refine awp_skip ?_
        refine awp_seq ?_
        refine awp_plain hN rfl ?_
        refine seq_run0 (stp_move (.row _ _) rfl) ?_
        refine seq_run0 (stp_assign (.row _ _) rfl) ?_
        refine seq_run0 (stp_assign (.dat _) rfl) ?_
        refine awp_ret ?_
        cases H
        exact ⟨trivial, t_slotv rfl rfl, .inl rfl, trivial⟩
    · rintro k10 x13 l9 q11 h15 h16 H hq11
      replace H : gateref2_SegmentsOf_L1 k10 x13 l9 = some q11 := H
      unfold gateref2_SegmentsOf_L1 at H
      refine awp_seq ?_
      refine awp_plain hN rfl ?_
      refine seq_run0 (stp_lss rfl rfl) ?_
      refine awp_seq ?_
      refine awp_cond _ rfl (fun h => ?_) (fun h => (lt_f h15 h).elim)
      refine awp_skip ?_
      refine awp_seq ?_
      refine awp_block ?_
      refine awp_seq ?_
      refine awp_plain hN rfl ?_
      refine seq_run0 (t_idx tyE41 (fun _ => rfl) rfl rfl h16) ?_
      refine seq_run0 (stp_loadE1 tyS9 rfl (map_at h16) rfl) ?_
      refine seq_run0 (stp_assign (.dat _) rfl) ?_
      refine awp_plain hN rfl ?_
      refine seq_run0 (stp_move (.row _ _) rfl) ?_
      refine seq_run0 (stp_move (.dat _) rfl) ?_
      obtain ⟨r17, h18, H⟩ := bnd H
      refine seq_run0 (stp_call (k_gateref2_bytesOf x13 r17 h18) ⟨.inl rfl, trivial⟩) ?_
      refine seq_run0 (stp_dat (u' := vlst (List.map C_string [r17])) (stp_lit [[_]] tyL41 ⟨rfl, .inl ⟨_, rfl, rfl, rfl⟩, rfl, trivial⟩ rfl rfl) rfl) ?_
      obtain ⟨h19, H⟩ := gif H
      refine seq_run2 (t_app tyL41 (fun _ => rfl) rfl rfl rfl ⟨by simp, by simpa using h19⟩ rfl) rfl ?_
      refine seq_run0 (stp_assign (.row _ _) rfl) ?_
      refine awp_plain hN rfl ?_
      refine seq_run0 (stp_add rfl rfl (by omega)) ?_
      refine seq_run0 (stp_move (.dat _) rfl) ?_
      exact ⟨_, backl H, ⟨rfl, rfl, rfl, rfl, trivial⟩, ⟨rfl, trivial⟩⟩
theorem kb_strings_Builder_Len (l1 : (List Int)) (r : (Int × (List Int))) (H : m_strings_Builder_Len l1 = some r) : FnG Tryz.prog 98 [.ptr 0 0] [(0, .box (some 0) 110 [.nptr 0, .row 1 l1.length]), (1, .row 5 1 (List.map C_uint8 l1))] (.dat (resOf [vint r.1])) [(0, .box (some 0) 110 [.nptr 0, .row 900 r.2.length]), (900, .row 5 1 (List.map C_uint8 r.2))] := by
  refine fnG_of (by kernel_rfl) Tryz.func98 rfl rfl rfl rfl fun X A hN => ?_
  refine awp_cv ?_
  unfold m_strings_Builder_Len at H
  refine awp_seq ?_
  refine awp_plain hN rfl ?_
  refine seq_run0 (stp_assign (.dat _) rfl) ?_
  refine awp_seq ?_
  refine awp_plain hN rfl ?_
  refine seq_run0 (stp_move (.ptr _ _) rfl) ?_
  refine seq_run0 (stp_nilP rfl) ?_
  refine seq_run0 (stp_fldP tyF110_1 rfl) ?_
  refine seq_run1 (stp_load1 tyS46 rfl rfl) rfl ?_
  refine seq_run1 (t_lenR tyU46 rfl rfl) rfl ?_
  refine seq_run0 (stp_assign (.dat _) rfl) ?_
  refine awp_ret ?_
  cases H
  show Cv _ _ _ _
  refine cv_ren (rn [(1, 900)]) [(2, .dat (vint (l1.length : Int)))] [(0, .box (some (A.bl 0)) 110 [.nptr 0, .row 1 l1.length]), (1, .row 5 1 (List.map C_uint8 l1))] ⟨rfl, trivial⟩ ⟨rfl, rfl, trivial⟩ rfl rfl ?_
  exact ⟨trivial, [(2, .dat (vint (l1.length : Int)))], ⟨rfl, trivial⟩, ⟨rfl, rfl, trivial⟩, rfl, .inl ⟨[vint (l1.length : Int)], ⟨rfl, trivial⟩, rfl⟩⟩
theorem k_message_Segment (s1 : Bs) (r : (Bs)) (H : m_message_Segment s1 = some r) : Fn Tryz.prog 97 [vstr s1] (resOf [vstr r]) := by
  refine ⟨by kernel_rfl, pure_of (us := [vstr r]) Tryz.func97 rfl rfl rfl rfl fun X hN => ?_⟩
  unfold m_message_Segment at H
  refine awp_seq ?_
  refine awp_plain hN rfl ?_
  refine seq_run0 (stp_assign (.dat _) rfl) ?_
  refine awp_seq ?_
  refine awp_plain hN rfl ?_
  refine seq_run2 (stp_alloc 1 tyZ110 rfl) rfl ?_
  refine awp_wkB 1 0 (.nptr 1) rfl rfl nptr_nil ?_
  refine awp_nilrowB 1 1 2 5 1 rfl rfl rfl rfl ?_
  refine awp_seq ?_
  refine awp_seq ?_
  refine awp_plain hN rfl ?_
  refine seq_run0 (stp_move (.dat _) rfl) ?_
  refine seq_run0 (stp_len_str tyU9 rfl) ?_
  refine seq_run0 (stp_move (.dat _) rfl) ?_
  refine awp_block ?_
  obtain ⟨h5, H⟩ := gif H
  refine awp_forL (fun (k3 : Nat) (s : (List Int)) => [(0, .dat (vstr s1)), (3, .ptr 1 0), (7, .dat (vint (s1.length : Int))), (8, .dat (vint (k3 : Int)))]) (fun (k3 : Nat) (s : (List Int)) => [(1, .box none 110 [.nptr 1, .row 2 s.length]), (2, .row 5 1 (List.map C_uint8 s))]) ([] : List Int) H ⟨rfl, rfl, rfl, rfl, trivial⟩ ⟨rfl, rfl, trivial⟩ (fun _ _ => rfl) ?_ ?_
  · rintro l2 H
    replace H : message_Segment_E1 l2 = some r := H
    unfold message_Segment_E1 at H
    refine awp_seq ?_
    refine awp_plain hN rfl ?_
    refine seq_run0 (stp_lss rfl rfl) ?_
    refine awp_seq ?_
    refine awp_cond _ rfl (fun h => (lt_t h).elim) (fun h => ?_)
    refine awp_exit ?_
    refine awp_seq ?_
    refine awp_plain hN rfl ?_
    obtain ⟨h7, H⟩ := gif H
    refine seq_callG (rn [(0, 1), (1, 2)]) [(0, _, _, none), (1, _, _, none)] [] (kbs_String h7 (C := C_uint8) (fun _ => rfl)) ⟨rfl, rfl, trivial⟩ ⟨.inl (.inl rfl), trivial⟩ ⟨⟨⟨rfl, rfl⟩, trivial⟩, ⟨⟨rfl, rfl, rfl⟩, trivial⟩, trivial⟩ rfl ?_
    refine seq_run0 (stp_assign (.dat _) rfl) ?_
    refine awp_ret ?_
    cases H
    exact ⟨trivial, .inl rfl, trivial⟩
  · rintro k3 x6 l2 q4 h8 h9 H hq4
    replace H : message_Segment_L1 k3 x6 l2 = some q4 := H
    unfold message_Segment_L1 at H
    refine awp_cv ?_
    refine awp_seq ?_
    refine awp_plain hN rfl ?_
    refine seq_run0 (stp_lss rfl rfl) ?_
    refine awp_seq ?_
    refine awp_cond _ rfl (fun h => ?_) (fun h => (lt_f h8 h).elim)
    refine awp_skip ?_
    refine awp_joinE (ι := (List Int)) (fun i => [(0, .dat (vstr s1)), (3, .ptr 1 0), (7, .dat (vint (s1.length : Int))), (8, .dat (vint (k3 : Int)))]) (fun i => [(1, .box none 110 [.nptr 1, .row 5 i.length]), (5, .row 5 1 (List.map C_uint8 i))]) (fun i => message_Segment_J2 i = some q4) (fun i => rfl) ?_ ?_
    · refine awp_cv ?_
      refine awp_block ?_
      refine awp_seq ?_
      refine awp_plain hN rfl ?_
      refine seq_run0 (stp_move (.dat _) rfl) ?_
      refine seq_run0 (stp_assign (.dat _) rfl) ?_
      refine awp_seq ?_
      refine awp_plain hN rfl ?_
      refine seq_run0 (stp_move (.dat _) rfl) ?_
      refine seq_run0 (stp_move (.dat _) rfl) ?_
      refine seq_run0 (t_byte tyU9 rfl rfl h9) ?_
      refine seq_run0 (stp_assign (.dat _) rfl) ?_
      refine awp_joinE (ι := Bool) (fun i => [(0, .dat (vstr s1)), (3, .ptr 1 0), (5, .dat (vval (.int .u8 (x6.toNat : Int)))), (7, .dat (vint (s1.length : Int))), (8, .dat (vint (k3 : Int))), (20, .dat (vbool i))]) (fun i => [(1, .box none 110 [.nptr 1, .row 2 l2.length]), (2, .row 5 1 (List.map C_uint8 l2))]) (fun i => message_Segment_J3 l2 x6 i = some q4) (fun i => rfl) ?_ ?_
      · refine awp_cv ?_
        refine awp_plain hN rfl ?_
        refine seq_run0 (stp_move (.dat _) rfl) ?_
        obtain ⟨r10, h11, H⟩ := bnd H
        refine seq_run0 (stp_call (k_message_isFree (x6.toNat : Int) r10 h11) ⟨.inl rfl, trivial⟩) ?_
        refine seq_run0 (stp_move (.dat _) rfl) ?_
        refine seq_split (j := 2) rfl rfl (fun h12 => ?_) (fun h12 => ?_) rfl
        · have h13 := un3 h12
          replace H := iff_ h13 H
          refine seq_g0 rfl rfl h12 (stp_move (.dat _) rfl) ?_
          obtain ⟨r14, h15, H⟩ := bnd H
          refine seq_g0 rfl rfl h12 (stp_call (k_strings_IndexByte [33, 36, 38, 39, 40, 41, 42, 43, 44, 59, 61, 58, 64] (x6.toNat : Int) r14 h15) ⟨.inl rfl, .inl rfl, trivial⟩) ?_
          refine seq_g0 rfl rfl h12 (stp_geq rfl rfl) ?_
          refine seq_run0 (stp_pick_f rfl (bFF h13) rfl) ?_
          refine seq_end ?_
          show Cv _ _ _ _
          refine cv_in ?_
          exact ⟨decide (0 ≤ r14), H, ⟨rfl, rfl, rfl, rfl, rfl, rfl, trivial⟩, ⟨rfl, rfl, trivial⟩⟩
        · have h16 := un4 h12
          replace H := ift h16 H
          refine seq_skip rfl rfl h12 ?_
          refine seq_skip rfl rfl h12 ?_
          refine seq_skip rfl rfl h12 ?_
          refine seq_run0 (stp_pick_t rfl (bTT h16) rfl) ?_
          refine seq_end ?_
          show Cv _ _ _ _
          refine cv_in ?_
          exact ⟨true, H, ⟨rfl, rfl, rfl, rfl, rfl, rfl, trivial⟩, ⟨rfl, rfl, trivial⟩⟩
      · rintro v17 H
        replace H : message_Segment_J3 l2 x6 v17 = some q4 := H
        unfold message_Segment_J3 at H
        refine awp_cond _ rfl (fun h18 => ?_) (fun h18 => ?_)
        · replace H := ift h18 H
          refine awp_plain hN rfl ?_
          refine seq_run0 (stp_move (.dat _) rfl) ?_
          obtain ⟨r19, h20, H⟩ := bnd H
          refine seq_callG (rn [(0, 1), (1, 2), (900, 3)]) [(0, _, _, some _), (1, _, _, none)] [(900, _)] (kb_strings_Builder_WriteByte l2 (x6.toNat : Int) r19 h20) ⟨rfl, rfl, rfl, trivial⟩ ⟨.inl (.inl rfl), .inl (.inl rfl), trivial⟩ ⟨⟨⟨rfl, rfl⟩, trivial⟩, ⟨⟨rfl, rfl, rfl⟩, trivial⟩, trivial⟩ rfl ?_
          refine seq_end ?_
          show Cv _ _ _ _
          refine cv_ren (rn [(3, 5)]) [(0, .dat (vstr s1)), (3, .ptr 1 0), (7, .dat (vint (s1.length : Int))), (8, .dat (vint (k3 : Int)))] [(1, .box none 110 [.nptr 1, .row 3 r19.2.length]), (3, .row 5 1 (List.map C_uint8 r19.2))] ⟨rfl, rfl, rfl, rfl, trivial⟩ ⟨rfl, rfl, trivial⟩ rfl rfl ?_
          exact ⟨r19.2, H, ⟨rfl, rfl, rfl, rfl, trivial⟩, ⟨rfl, rfl, trivial⟩⟩
        · replace H := iff_ h18 H
          refine awp_plain hN rfl ?_
          refine seq_run0 (stp_move (.dat _) rfl) ?_
          obtain ⟨r21, h22, H⟩ := bnd H
          refine seq_run0 (stp_call (k_message_percent (x6.toNat : Int) r21 h22) ⟨.inl rfl, trivial⟩) ?_
          obtain ⟨r23, h24, H⟩ := bnd H
          refine seq_callG (rn [(0, 1), (1, 2), (900, 4)]) [(0, _, _, some _), (1, _, _, none)] [(900, _)] (kb_strings_Builder_WriteString l2 r21 r23 h24) ⟨rfl, rfl, rfl, trivial⟩ ⟨.inl (.inl rfl), .inl (.inl rfl), trivial⟩ ⟨⟨⟨rfl, rfl⟩, trivial⟩, ⟨⟨rfl, rfl, rfl⟩, trivial⟩, trivial⟩ rfl ?_
          refine seq_end ?_
          show Cv _ _ _ _
          refine cv_ren (rn [(4, 5)]) [(0, .dat (vstr s1)), (3, .ptr 1 0), (7, .dat (vint (s1.length : Int))), (8, .dat (vint (k3 : Int)))] [(1, .box none 110 [.nptr 1, .row 4 r23.2.2.length]), (4, .row 5 1 (List.map C_uint8 r23.2.2))] ⟨rfl, rfl, rfl, rfl, trivial⟩ ⟨rfl, rfl, trivial⟩ rfl rfl ?_
          exact ⟨r23.2.2, H, ⟨rfl, rfl, rfl, rfl, trivial⟩, ⟨rfl, rfl, trivial⟩⟩
    · rintro l25 H
      replace H : message_Segment_J2 l25 = some q4 := H
      unfold message_Segment_J2 at H
      refine awp_plain hN rfl ?_
      refine seq_run0 (stp_add rfl rfl (by omega)) ?_
      refine seq_run0 (stp_move (.dat _) rfl) ?_
      refine seq_end ?_
      show Cv _ _ _ _
      refine cv_ren (rn [(5, 2)]) [(0, .dat (vstr s1)), (3, .ptr 1 0), (7, .dat (vint (s1.length : Int))), (8, .dat (vint ((k3 : Int) + 1)))] [(1, .box none 110 [.nptr 1, .row 5 l25.length]), (5, .row 5 1 (List.map C_uint8 l25))] ⟨rfl, rfl, rfl, rfl, trivial⟩ ⟨rfl, rfl, trivial⟩ rfl rfl ?_
      exact ⟨_, backl H, ⟨rfl, rfl, rfl, rfl, trivial⟩, ⟨rfl, rfl, trivial⟩⟩
theorem k_message_JoinPath (l1 : (List Bs)) (r : (Bs × Int)) (H : m_message_JoinPath l1 = some r) : Fn Tryz.prog 30 [vlst (List.map C_string l1)] (resOf [vstr r.1, vint r.2]) := by
  refine ⟨by kernel_rfl, pure_of (us := [vstr r.1, vint r.2]) Tryz.func30 rfl rfl rfl rfl fun X hN => ?_⟩
  unfold m_message_JoinPath at H
  refine awp_seq ?_
  refine awp_plain hN rfl ?_
  refine seq_run0 (stp_assign (.dat _) rfl) ?_
  refine seq_run0 (stp_assign (.dat _) rfl) ?_
  refine awp_seq ?_
  refine awp_seq ?_
  refine awp_plain hN rfl ?_
  refine seq_run0 (stp_move (.dat _) rfl) ?_
  refine seq_run0 (t_len tyU41 rfl) ?_
  refine seq_run0 (stp_gtr rfl rfl) ?_
  refine awp_cond _ rfl (fun h2 => ?_) (fun h2 => ?_)
  · replace H := ift h2 H
    refine awp_seq ?_
    refine awp_plain hN rfl ?_
    refine seq_run0 (stp_assign (.dat _) rfl) ?_
    refine seq_run0 (stp_assign (.dat _) rfl) ?_
    refine awp_ret ?_
    cases H
    exact ⟨trivial, .inl rfl, .inl rfl, trivial⟩
  · replace H := iff_ h2 H
    refine awp_skip ?_
    refine awp_seq ?_
    refine awp_seq ?_
    refine awp_plain hN rfl ?_
    refine seq_run0 (stp_move (.dat _) rfl) ?_
    refine seq_run0 (t_len tyU41 rfl) ?_
    refine seq_run0 (stp_eql rfl rfl) ?_
    refine awp_cond _ rfl (fun h3 => ?_) (fun h3 => ?_)
    · replace H := ift h3 H
      refine awp_seq ?_
      refine awp_plain hN rfl ?_
      refine seq_run0 (stp_assign (.dat _) rfl) ?_
      refine seq_run0 (stp_assign (.dat _) rfl) ?_
      refine awp_ret ?_
      cases H
      exact ⟨trivial, .inl rfl, .inl rfl, trivial⟩
    · replace H := iff_ h3 H
      refine awp_skip ?_
      refine awp_seq ?_
      refine awp_plain hN rfl ?_
      refine seq_run2 (stp_alloc 1 tyZ110 rfl) rfl ?_
      refine awp_wkB 1 0 (.nptr 1) rfl rfl nptr_nil ?_
      refine awp_nilrowB 1 1 2 5 1 rfl rfl rfl rfl ?_
      refine awp_seq ?_
      refine awp_seq ?_
      refine awp_plain hN rfl ?_
      refine seq_run0 (stp_move (.dat _) rfl) ?_
      refine seq_run0 (t_len tyU41 rfl) ?_
      refine seq_run0 (stp_move (.dat _) rfl) ?_
      refine awp_block ?_
      obtain ⟨h7, H⟩ := gif H
      refine awp_forL (fun (k5 : Nat) (s : (List Int)) => [(4, .ptr 1 0), (13, .dat (vlst (List.map C_string l1))), (14, .dat (vint (l1.length : Int))), (15, .dat (vint (k5 : Int)))]) (fun (k5 : Nat) (s : (List Int)) => [(1, .box none 110 [.nptr 1, .row 2 s.length]), (2, .row 5 1 (List.map C_uint8 s))]) ([] : List Int) H ⟨rfl, rfl, rfl, rfl, trivial⟩ ⟨rfl, rfl, trivial⟩ (fun _ _ => rfl) ?_ ?_
      · rintro l4 H
        replace H : message_JoinPath_E1 l4 = some r := H
        unfold message_JoinPath_E1 at H
        refine awp_seq ?_
        refine awp_plain hN rfl ?_
        refine seq_run0 (stp_lss rfl rfl) ?_
        refine awp_seq ?_
        refine awp_cond _ rfl (fun h => (lt_t h).elim) (fun h => ?_)
        refine awp_exit ?_
        refine awp_seq ?_
        refine awp_seq ?_
        refine awp_plain hN rfl ?_
        obtain ⟨r9, h10, H⟩ := bnd H
        refine seq_callG (rn [(0, 1), (1, 2), (900, 3)]) [(0, _, _, some _), (1, _, _, none)] [(900, _)] (kb_strings_Builder_Len l4 r9 h10) ⟨rfl, rfl, rfl, trivial⟩ ⟨.inl (.inl rfl), trivial⟩ ⟨⟨⟨rfl, rfl⟩, trivial⟩, ⟨⟨rfl, rfl, rfl⟩, trivial⟩, trivial⟩ rfl ?_
        refine seq_run0 (stp_gtr rfl rfl) ?_
        refine awp_cond _ rfl (fun h11 => ?_) (fun h11 => ?_)
        · replace H := ift h11 H
          refine awp_seq ?_
          refine awp_plain hN rfl ?_
          refine seq_run0 (stp_assign (.dat _) rfl) ?_
          refine seq_run0 (stp_assign (.dat _) rfl) ?_
          refine awp_ret ?_
          cases H
          exact ⟨trivial, .inl rfl, .inl rfl, trivial⟩
        · replace H := iff_ h11 H
          refine awp_skip ?_
          refine awp_seq ?_
          refine awp_plain hN rfl ?_
          obtain ⟨h12, H⟩ := gif H
          refine seq_callG (rn [(0, 1), (1, 3)]) [(0, _, _, none), (1, _, _, none)] [] (kbs_String h12 (C := C_uint8) (fun _ => rfl)) ⟨rfl, rfl, trivial⟩ ⟨.inl (.inl rfl), trivial⟩ ⟨⟨⟨rfl, rfl⟩, trivial⟩, ⟨⟨rfl, rfl, rfl⟩, trivial⟩, trivial⟩ rfl ?_
          refine seq_run0 (stp_assign (.dat _) rfl) ?_
          refine seq_run0 (stp_assign (.dat _) rfl) ?_
          refine awp_ret ?_
          cases H
          exact ⟨trivial, .inl rfl, .inl rfl, trivial⟩
      · rintro k5 x8 l4 q6 h13 h14 H hq6
        replace H : message_JoinPath_L1 k5 x8 l4 = some q6 := H
        unfold message_JoinPath_L1 at H
        refine awp_cv ?_
        refine awp_seq ?_
        refine awp_plain hN rfl ?_
        refine seq_run0 (stp_lss rfl rfl) ?_
        refine awp_seq ?_
        refine awp_cond _ rfl (fun h => ?_) (fun h => (lt_f h13 h).elim)
        refine awp_skip ?_
        refine awp_seq ?_
        refine awp_block ?_
        refine awp_seq ?_
        refine awp_plain hN rfl ?_
        refine seq_run0 (t_idx tyE41 (fun _ => rfl) rfl rfl h14) ?_
        refine seq_run0 (stp_loadE1 tyS9 rfl (map_at h14) rfl) ?_
        refine seq_run0 (stp_assign (.dat _) rfl) ?_
        refine awp_seq ?_
        refine awp_seq ?_
        refine awp_plain hN rfl ?_
        refine seq_run0 (stp_move (.dat _) rfl) ?_
        refine seq_run0 (stp_seql rfl rfl) ?_
        refine seq_run0 (stp_move (.dat _) rfl) ?_
        refine seq_aF rfl rfl (fun hc => stp_move (.dat _) rfl) ?_
        refine seq_aF rfl rfl (fun hc => stp_seql (cnd (c := (!(decide (x8 = [46])))) hc) rfl) ?_
        refine seq_run0 (stp_pick_or rfl rfl (fun hb => (cnd (c := (!(decide (x8 = [46])))) (notI hb)))) ?_
        refine awp_cond _ rfl (fun h15 => ?_) (fun h15 => ?_)
        · replace H := ift h15 H
          refine awp_seq ?_
          refine awp_plain hN rfl ?_
          refine seq_run0 (stp_assign (.dat _) rfl) ?_
          refine seq_run0 (stp_assign (.dat _) rfl) ?_
          refine awp_ret ?_
          replace H := retl H hq6
          cases H
          show Cv _ _ _ _
          refine cv_in ?_
          exact ⟨trivial, .inl rfl, .inl rfl, trivial⟩
        · replace H := iff_ h15 H
          refine awp_skip ?_
          refine awp_plain hN rfl ?_
          refine seq_run0 (stp_move (.dat _) rfl) ?_
          obtain ⟨r16, h17, H⟩ := bnd H
          refine seq_run0 (stp_call (k_message_Segment x8 r16 h17) ⟨.inl rfl, trivial⟩) ?_
          obtain ⟨h18, H⟩ := gif H
          refine seq_run0 (stp_sadd rfl rfl (Nat.le_trans h18 (by decide))) ?_
          obtain ⟨r19, h20, H⟩ := bnd H
          refine seq_callG (rn [(0, 1), (1, 2), (900, 4)]) [(0, _, _, some _), (1, _, _, none)] [(900, _)] (kb_strings_Builder_WriteString l4 ([47] ++ r16) r19 h20) ⟨rfl, rfl, rfl, trivial⟩ ⟨.inl (.inl rfl), .inl (.inl rfl), trivial⟩ ⟨⟨⟨rfl, rfl⟩, trivial⟩, ⟨⟨rfl, rfl, rfl⟩, trivial⟩, trivial⟩ rfl ?_
          refine awp_plain hN rfl ?_
          refine seq_run0 (stp_add rfl rfl (by omega)) ?_
          refine seq_run0 (stp_move (.dat _) rfl) ?_
          refine seq_end ?_
          show Cv _ _ _ _
          refine cv_ren (rn [(4, 2)]) [(4, .ptr 1 0), (13, .dat (vlst (List.map C_string l1))), (14, .dat (vint (l1.length : Int))), (15, .dat (vint ((k5 : Int) + 1)))] [(1, .box none 110 [.nptr 1, .row 4 r19.2.2.length]), (4, .row 5 1 (List.map C_uint8 r19.2.2))] ⟨rfl, rfl, rfl, rfl, trivial⟩ ⟨rfl, rfl, trivial⟩ rfl rfl ?_
          exact ⟨_, backl H, ⟨rfl, rfl, rfl, rfl, trivial⟩, ⟨rfl, rfl, trivial⟩⟩
theorem k_slices_Index_L_string_string_ (s1 : (List Bs)) (v2 : Bs) (r : (Int)) (H : m_slices_Index_L_string_string_ s1 v2 = some r) : Fn Tryz.prog 164 [vlst (List.map C_string s1), vstr v2] (resOf [vint r]) := by
  refine ⟨by kernel_rfl, pure_of (us := [vint r]) Tryz.func164 rfl rfl rfl rfl fun X hN => ?_⟩
  unfold m_slices_Index_L_string_string_ at H
  refine awp_seq ?_
  refine awp_plain hN rfl ?_
  refine seq_run0 (stp_assign (.dat _) rfl) ?_
  refine awp_seq ?_
  refine awp_seq ?_
  refine awp_plain hN rfl ?_
  refine seq_run0 (stp_move (.dat _) rfl) ?_
  refine seq_run0 (t_len tyU41 rfl) ?_
  refine seq_run0 (stp_move (.dat _) rfl) ?_
  refine awp_block ?_
  obtain ⟨h5, H⟩ := gif H
  refine awp_forL (fun (k3 : Nat) (s : Unit) => [(0, .dat (vlst (List.map C_string s1))), (1, .dat (vstr v2)), (7, .dat (vint (s1.length : Int))), (8, .dat (vint (k3 : Int)))]) (fun (k3 : Nat) (s : Unit) => []) () H ⟨rfl, rfl, rfl, rfl, trivial⟩ trivial (fun _ _ => rfl) ?_ ?_
  · rintro ⟨⟩ H
    replace H : slices_Index_L_string_string__E1 = some r := H
    unfold slices_Index_L_string_string__E1 at H
    refine awp_seq ?_
    refine awp_plain hN rfl ?_
    refine seq_run0 (stp_lss rfl rfl) ?_
    refine awp_seq ?_
    refine awp_cond _ rfl (fun h => (lt_t h).elim) (fun h => ?_)
    refine awp_exit ?_
    refine awp_seq ?_
    refine awp_plain hN rfl ?_
    refine seq_run0 (stp_assign (.dat _) rfl) ?_
    refine awp_ret ?_
    cases H
    exact ⟨trivial, .inl rfl, trivial⟩
  · rintro k3 x6 ⟨⟩ q4 h7 h8 H hq4
    replace H : slices_Index_L_string_string__L1 v2 k3 x6 = some q4 := H
    unfold slices_Index_L_string_string__L1 at H
    refine awp_seq ?_
    refine awp_plain hN rfl ?_
    refine seq_run0 (stp_lss rfl rfl) ?_
    refine awp_seq ?_
    refine awp_cond _ rfl (fun h => ?_) (fun h => (lt_f h7 h).elim)
    refine awp_skip ?_
    refine awp_seq ?_
    refine awp_block ?_
    refine awp_seq ?_
    refine awp_plain hN rfl ?_
    refine seq_run0 (stp_move (.dat _) rfl) ?_
    refine seq_run0 (stp_assign (.dat _) rfl) ?_
    refine awp_seq ?_
    refine awp_plain hN rfl ?_
    refine seq_run0 (stp_move (.dat _) rfl) ?_
    refine seq_run0 (stp_move (.dat _) rfl) ?_
    refine seq_run0 (stp_move (.dat _) rfl) ?_
    refine seq_run0 (t_idx tyE41 (fun _ => rfl) rfl rfl h8) ?_
    refine seq_run0 (stp_loadE1 tyS9 rfl (map_at h8) rfl) ?_
    refine seq_run0 (stp_seql rfl rfl) ?_
    refine awp_cond _ rfl (fun h9 => ?_) (fun h9 => ?_)
    · replace H := ift h9 H
      refine awp_seq ?_
      refine awp_plain hN rfl ?_
      refine seq_run0 (stp_move (.dat _) rfl) ?_
      refine seq_run0 (stp_assign (.dat _) rfl) ?_
      refine awp_ret ?_
      replace H := retl H hq4
      cases H
      exact ⟨trivial, .inl rfl, trivial⟩
    · replace H := iff_ h9 H
      refine awp_skip ?_
      refine awp_plain hN rfl ?_
      refine seq_run0 (stp_add rfl rfl (by omega)) ?_
      refine seq_run0 (stp_move (.dat _) rfl) ?_
      exact ⟨_, backl H, ⟨rfl, rfl, rfl, rfl, trivial⟩, trivial⟩
theorem k_slices_Contains_L_string_string_ (s1 : (List Bs)) (v2 : Bs) (r : (Bool)) (H : m_slices_Contains_L_string_string_ s1 v2 = some r) : Fn Tryz.prog 100 [vlst (List.map C_string s1), vstr v2] (resOf [vbool r]) := by
  refine ⟨by kernel_rfl, pure_of (us := [vbool r]) Tryz.func100 rfl rfl rfl rfl fun X hN => ?_⟩
  unfold m_slices_Contains_L_string_string_ at H
  refine awp_seq ?_
  refine awp_plain hN rfl ?_
  refine seq_run0 (stp_assign (.dat _) rfl) ?_
  refine awp_seq ?_
  refine awp_plain hN rfl ?_
  refine seq_run0 (stp_move (.dat _) rfl) ?_
  refine seq_run0 (stp_move (.dat _) rfl) ?_
  obtain ⟨r3, h4, H⟩ := bnd H
  refine seq_run0 (stp_call (k_slices_Index_L_string_string_ s1 v2 r3 h4) ⟨.inl rfl, .inl rfl, trivial⟩) ?_
  refine seq_run0 (stp_geq rfl rfl) ?_
  refine seq_run0 (stp_assign (.dat _) rfl) ?_
  refine awp_ret ?_
  cases H
  exact ⟨trivial, .inl rfl, trivial⟩
end Go.Proofs.YtbejggfkfaibeaaGreatDoor
