/- Walks along the models. Printed by a program. -/
import Derived.Test.YtbejggfkfaibeaaGreatDoorYgw3
namespace Go.Proofs.YtbejggfkfaibeaaGreatDoor
open Go.RowKit
set_option linter.unusedVariables false
set_option maxRecDepth 20000
theorem k_gateref2_PathFrom (l1 : (List Bs)) (r : (Bs × Int)) (H : m_gateref2_PathFrom l1 = some r) : Fn Tryz.prog 31 [vlst (List.map C_string l1)] (resOf [vstr r.1, vint r.2]) := by
  refine ⟨by kernel_rfl, pure_of (us := [vstr r.1, vint r.2]) Tryz.func31 rfl rfl rfl rfl fun X hN => ?_⟩
  unfold m_gateref2_PathFrom at H
  refine awp_seq ?_
  refine awp_plain hN rfl ?_
  refine seq_run0 (stp_assign (.dat _) rfl) ?_
  refine seq_run0 (stp_assign (.dat _) rfl) ?_
  refine awp_seq ?_
  refine awp_block ?_
  refine awp_seq ?_
  refine awp_plain hN rfl ?_
  refine seq_run0 (stp_move (.dat _) rfl) ?_
  refine seq_run0 (t_len tyU41 rfl) ?_
  refine seq_run0 (stp_gtr rfl rfl) ?_
  refine seq_run0 (stp_assign (.dat _) rfl) ?_
  refine awp_cond _ rfl (fun h2 => ?_) (fun h2 => ?_)
  · replace H := ift h2 H
    refine awp_seq ?_
    refine awp_plain hN rfl ?_
    refine seq_run0 (stp_assign (.dat _) rfl) ?_
    refine seq_run0 (stp_assign (.dat _) rfl) ?_
    refine awp_ret ?_
    cases H
    exact ⟨trivial, .inl rfl, .inl rfl, trivial⟩
  · replace H := iff_ h2 H
    refine awp_seq ?_
    refine awp_plain hN rfl ?_
    refine seq_run0 (stp_move (.dat _) rfl) ?_
    refine seq_run0 (t_len tyU41 rfl) ?_
    refine seq_run0 (stp_eql rfl rfl) ?_
    refine seq_run0 (stp_assign (.dat _) rfl) ?_
    refine awp_cond _ rfl (fun h3 => ?_) (fun h3 => ?_)
    · replace H := ift h3 H
      refine awp_seq ?_
      refine awp_plain hN rfl ?_
      refine seq_run0 (stp_assign (.dat _) rfl) ?_
      refine seq_run0 (stp_assign (.dat _) rfl) ?_
      refine awp_ret ?_
      cases H
      exact ⟨trivial, .inl rfl, .inl rfl, trivial⟩
    · replace H := iff_ h3 H
      refine awp_joinE (ι := Bool) (fun i => [(0, .dat (vlst (List.map C_string l1))), (16, .dat (vbool i))]) (fun i => []) (fun i => gateref2_PathFrom_J1 l1 i = some r) (fun i => rfl) ?_ ?_
      · skip
        refine awp_plain hN rfl ?_
        refine seq_run0 (stp_move (.dat _) rfl) ?_
        obtain ⟨r4, h5, H⟩ := bnd H
        refine seq_run0 (stp_call (k_slices_Contains_L_string_string_ l1 [46] r4 h5) ⟨.inl rfl, .inl rfl, trivial⟩) ?_
        refine seq_run0 (stp_move (.dat _) rfl) ?_
        refine seq_split (j := 2) rfl rfl (fun h6 => ?_) (fun h6 => ?_) rfl
        · have h7 := un3 h6
          replace H := iff_ h7 H
          refine seq_g0 rfl rfl h6 (stp_move (.dat _) rfl) ?_
          obtain ⟨r8, h9, H⟩ := bnd H
          refine seq_g0 rfl rfl h6 (stp_call (k_slices_Contains_L_string_string_ l1 [46, 46] r8 h9) ⟨.inl rfl, .inl rfl, trivial⟩) ?_
          refine seq_run0 (stp_pick_f rfl (bFF h7) rfl) ?_
          refine seq_run0 (stp_assign (.dat _) rfl) ?_
          exact ⟨r8, H, ⟨rfl, rfl, trivial⟩, trivial⟩
        · have h10 := un4 h6
          replace H := ift h10 H
          refine seq_skip rfl rfl h6 ?_
          refine seq_skip rfl rfl h6 ?_
          refine seq_run0 (stp_pick_t rfl (bTT h10) rfl) ?_
          refine seq_run0 (stp_assign (.dat _) rfl) ?_
          exact ⟨true, H, ⟨rfl, rfl, trivial⟩, trivial⟩
      · rintro v11 H
        replace H : gateref2_PathFrom_J1 l1 v11 = some r := H
        unfold gateref2_PathFrom_J1 at H
        refine awp_cond _ rfl (fun h12 => ?_) (fun h12 => ?_)
        · replace H := ift h12 H
          refine awp_seq ?_
          refine awp_plain hN rfl ?_
          refine seq_run0 (stp_assign (.dat _) rfl) ?_
          refine seq_run0 (stp_assign (.dat _) rfl) ?_
          refine awp_ret ?_
          cases H
          exact ⟨trivial, .inl rfl, .inl rfl, trivial⟩
        · replace H := iff_ h12 H
          refine awp_skip ?_
          refine awp_seq ?_
          refine awp_plain hN rfl ?_
          refine seq_run0 (stp_assign (.dat _) rfl) ?_
          refine awp_seq ?_
          refine awp_seq ?_
          refine awp_plain hN rfl ?_
          refine seq_run0 (stp_move (.dat _) rfl) ?_
          refine seq_run0 (t_len tyU41 rfl) ?_
          refine seq_run0 (stp_move (.dat _) rfl) ?_
          refine awp_block ?_
          refine awp_nilrow 4 1 5 1 rfl rfl rfl ?_
          obtain ⟨h16, H⟩ := gif H
          refine awp_forL (fun (k14 : Nat) (s : (List Int)) => [(4, .row 1 s.length), (23, .dat (vlst (List.map C_string l1))), (24, .dat (vint (l1.length : Int))), (25, .dat (vint (k14 : Int)))]) (fun (k14 : Nat) (s : (List Int)) => [(1, .row 5 1 (List.map C_uint8 s))]) [] H ⟨congrArg (Slot.row 1) (by simp), rfl, rfl, rfl, trivial⟩ ⟨rfl, trivial⟩ (fun _ _ => rfl) ?_ ?_
          · rintro l13 H
            replace H : gateref2_PathFrom_E2 l13 = some r := H
            unfold gateref2_PathFrom_E2 at H
            refine awp_seq ?_
            refine awp_plain hN rfl ?_
            refine seq_run0 (stp_lss rfl rfl) ?_
            refine awp_seq ?_
            refine awp_cond _ rfl (fun h => (lt_t h).elim) (fun h => ?_)
            refine awp_exit ?_
            refine awp_seq ?_
            refine awp_seq ?_
            refine awp_plain hN rfl ?_
            refine seq_run0 (stp_move (.row _ _) rfl) ?_
            refine seq_run1 (t_lenR tyU46 rfl rfl) rfl ?_
            refine seq_run0 (stp_gtr rfl rfl) ?_
            refine awp_cond _ rfl (fun h18 => ?_) (fun h18 => ?_)
            · replace H := ift h18 H
              refine awp_seq ?_
              refine awp_plain hN rfl ?_
              refine seq_run0 (stp_assign (.dat _) rfl) ?_
              refine seq_run0 (stp_assign (.dat _) rfl) ?_
              refine awp_ret ?_
              cases H
              exact ⟨trivial, .inl rfl, .inl rfl, trivial⟩
            · replace H := iff_ h18 H
              refine awp_skip ?_
              refine awp_seq ?_
              refine t_freeze 4 1 rfl rfl rfl ?_
              refine awp_plain hN rfl ?_
              refine seq_run0 (stp_move (.dat _) rfl) ?_
              refine seq_run0 (stp_convB (C := C_uint8) tyU46 tyU5 tyU9 (fun _ => rfl) rfl) ?_
              refine seq_run0 (stp_assign (.dat _) rfl) ?_
              refine seq_run0 (stp_assign (.dat _) rfl) ?_
              refine awp_ret ?_
              cases H
              exact ⟨trivial, .inl rfl, .inl rfl, trivial⟩
          · rintro k14 x17 l13 q15 h19 h20 H hq15
            replace H : gateref2_PathFrom_L2 k14 x17 l13 = some q15 := H
            unfold gateref2_PathFrom_L2 at H
            refine awp_seq ?_
            refine awp_plain hN rfl ?_
            refine seq_run0 (stp_lss rfl rfl) ?_
            refine awp_seq ?_
            refine awp_cond _ rfl (fun h => ?_) (fun h => (lt_f h19 h).elim)
            refine awp_skip ?_
            refine awp_seq ?_
            refine awp_block ?_
            refine awp_seq ?_
            refine awp_plain hN rfl ?_
            refine seq_run0 (t_idx tyE41 (fun _ => rfl) rfl rfl h20) ?_
            refine seq_run0 (stp_loadE1 tyS9 rfl (map_at h20) rfl) ?_
            refine seq_run0 (stp_assign (.dat _) rfl) ?_
            refine awp_seq ?_
            refine awp_plain hN rfl ?_
            refine seq_run0 (stp_move (.row _ _) rfl) ?_
            refine seq_run0 (stp_dat (u' := vlst (List.map C_uint8 [47])) (stp_lit [[_]] tyL46 ⟨rfl, .inl ⟨_, rfl, rfl, rfl⟩, rfl, trivial⟩ rfl rfl) rfl) ?_
            obtain ⟨h21, H⟩ := gif H
            refine seq_run2 (t_app tyL46 (fun _ => rfl) rfl rfl rfl ⟨by simp, by simpa using h21⟩ rfl) rfl ?_
            refine seq_run0 (stp_assign (.row _ _) rfl) ?_
            refine awp_seq ?_
            refine awp_plain hN rfl ?_
            refine seq_run0 (stp_move (.dat _) rfl) ?_
            refine seq_run0 (stp_len_str tyU9 rfl) ?_
            refine seq_run0 (stp_move (.dat _) rfl) ?_
            refine awp_block ?_
            obtain ⟨h25, H⟩ := gif H
            refine awp_forL (fun (k23 : Nat) (s : (List Int)) => [(4, .row 1 s.length), (6, .dat (vstr x17)), (23, .dat (vlst (List.map C_string l1))), (24, .dat (vint (l1.length : Int))), (25, .dat (vint (k14 : Int))), (33, .dat (vint (x17.length : Int))), (34, .dat (vint (k23 : Int)))]) (fun (k23 : Nat) (s : (List Int)) => [(1, .row 5 1 (List.map C_uint8 s))]) (l13 ++ [47]) H ⟨rfl, rfl, rfl, rfl, rfl, rfl, rfl, trivial⟩ ⟨rfl, trivial⟩ (fun _ _ => rfl) ?_ ?_
            · rintro l22 H
              replace H : gateref2_PathFrom_E3 l22 = some q15 := H
              unfold gateref2_PathFrom_E3 at H
              refine awp_seq ?_
              refine awp_plain hN rfl ?_
              refine seq_run0 (stp_lss rfl rfl) ?_
              refine awp_seq ?_
              refine awp_cond _ rfl (fun h => (lt_t h).elim) (fun h => ?_)
              refine awp_exit ?_
              refine awp_plain hN rfl ?_
              refine seq_run0 (stp_add rfl rfl (by omega)) ?_
              refine seq_run0 (stp_move (.dat _) rfl) ?_
              exact ⟨_, backl H, ⟨rfl, rfl, rfl, rfl, trivial⟩, ⟨rfl, trivial⟩⟩
            · rintro k23 x26 l22 q24 h27 h28 H hq24
              replace H : gateref2_PathFrom_L3 k23 x26 l22 = some q24 := H
              unfold gateref2_PathFrom_L3 at H
              refine awp_seq ?_
              refine awp_plain hN rfl ?_
              refine seq_run0 (stp_lss rfl rfl) ?_
              refine awp_seq ?_
              refine awp_cond _ rfl (fun h => ?_) (fun h => (lt_f h27 h).elim)
              refine awp_skip ?_
              refine awp_joinE (ι := (List Int)) (fun i => [(4, .row 1 i.length), (6, .dat (vstr x17)), (23, .dat (vlst (List.map C_string l1))), (24, .dat (vint (l1.length : Int))), (25, .dat (vint (k14 : Int))), (33, .dat (vint (x17.length : Int))), (34, .dat (vint (k23 : Int)))]) (fun i => [(1, .row 5 1 (List.map C_uint8 i))]) (fun i => gateref2_PathFrom_J4 i = some q24) (fun i => rfl) ?_ ?_
              · skip
                refine awp_block ?_
                refine awp_seq ?_
                refine awp_plain hN rfl ?_
                refine seq_run0 (stp_move (.dat _) rfl) ?_
                refine seq_run0 (stp_assign (.dat _) rfl) ?_
                refine awp_seq ?_
                refine awp_plain hN rfl ?_
                refine seq_run0 (stp_move (.dat _) rfl) ?_
                refine seq_run0 (stp_move (.dat _) rfl) ?_
                refine seq_run0 (t_byte tyU9 rfl rfl h28) ?_
                obtain ⟨r29, h30, H⟩ := bnd H
                refine seq_run0 (stp_call (k_strings_IndexByte [97, 98, 99, 100, 101, 102, 103, 104, 105, 106, 107, 108, 109, 110, 111, 112, 113, 114, 115, 116, 117, 118, 119, 120, 121, 122, 65, 66, 67, 68, 69, 70, 71, 72, 73, 74, 75, 76, 77, 78, 79, 80, 81, 82, 83, 84, 85, 86, 87, 88, 89, 90, 48, 49, 50, 51, 52, 53, 54, 55, 56, 57, 45, 46, 95, 126, 33, 36, 38, 39, 40, 41, 42, 43, 44, 59, 61, 58, 64] (x26.toNat : Int) r29 h30) ⟨.inl rfl, .inl rfl, trivial⟩) ?_
                refine seq_run0 (stp_geq rfl rfl) ?_
                refine awp_cond _ rfl (fun h31 => ?_) (fun h31 => ?_)
                · replace H := ift h31 H
                  refine awp_plain hN rfl ?_
                  refine seq_run0 (stp_move (.row _ _) rfl) ?_
                  refine seq_run0 (stp_move (.dat _) rfl) ?_
                  refine seq_run0 (stp_move (.dat _) rfl) ?_
                  refine seq_run0 (t_byte tyU9 rfl rfl h28) ?_
                  refine seq_run0 (stp_dat (u' := vlst (List.map C_uint8 [(x26.toNat : Int)])) (stp_lit [[_]] tyL46 ⟨rfl, .inl ⟨_, rfl, rfl, rfl⟩, rfl, trivial⟩ rfl rfl) rfl) ?_
                  obtain ⟨h32, H⟩ := gif H
                  refine seq_run2 (t_app tyL46 (fun _ => rfl) rfl rfl rfl ⟨by simp, by simpa using h32⟩ rfl) rfl ?_
                  refine seq_run0 (stp_assign (.row _ _) rfl) ?_
                  exact ⟨(l22 ++ [(x26.toNat : Int)]), H, ⟨rfl, rfl, rfl, rfl, rfl, rfl, rfl, trivial⟩, ⟨rfl, trivial⟩⟩
                · replace H := iff_ h31 H
                  refine awp_plain hN rfl ?_
                  refine seq_run0 (stp_move (.row _ _) rfl) ?_
                  refine seq_run0 (stp_move (.dat _) rfl) ?_
                  refine seq_run0 (stp_move (.dat _) rfl) ?_
                  refine seq_run0 (t_byte tyU9 rfl rfl h28) ?_
                  obtain ⟨r33, h34, H⟩ := bnd H
                  refine seq_run0 (stp_call (k_gateref2_coded (x26.toNat : Int) r33 h34) ⟨.inl rfl, trivial⟩) ?_
                  obtain ⟨h35, H⟩ := gif H
                  refine seq_run2 (t_appS (C := C_uint8) (fun _ => rfl) (show tyB8 Tryz.prog 46 9 5 from ⟨by kernel_rfl, by kernel_rfl, by kernel_rfl⟩) rfl rfl rfl h35) rfl ?_
                  refine seq_run0 (stp_assign (.row _ _) rfl) ?_
                  exact ⟨(l22 ++ numsB r33), H, ⟨rfl, rfl, rfl, rfl, rfl, rfl, rfl, trivial⟩, ⟨rfl, trivial⟩⟩
              · rintro out36 H
                replace H : gateref2_PathFrom_J4 out36 = some q24 := H
                unfold gateref2_PathFrom_J4 at H
                refine awp_plain hN rfl ?_
                refine seq_run0 (stp_add rfl rfl (by omega)) ?_
                refine seq_run0 (stp_move (.dat _) rfl) ?_
                exact ⟨_, backl H, ⟨rfl, rfl, rfl, rfl, rfl, rfl, rfl, trivial⟩, ⟨rfl, trivial⟩⟩
theorem k_slices_Equal_L_string_string_ (s1 : (List Bs)) (s2 : (List Bs)) (r : (Bool)) (H : m_slices_Equal_L_string_string_ s1 s2 = some r) : Fn Tryz.prog 32 [vlst (List.map C_string s1), vlst (List.map C_string s2)] (resOf [vbool r]) := by
  refine ⟨by kernel_rfl, pure_of (us := [vbool r]) Tryz.func32 rfl rfl rfl rfl fun X hN => ?_⟩
  unfold m_slices_Equal_L_string_string_ at H
  refine awp_seq ?_
  refine awp_plain hN rfl ?_
  refine seq_run0 (stp_assign (.dat _) rfl) ?_
  refine awp_seq ?_
  refine awp_seq ?_
  refine awp_plain hN rfl ?_
  refine seq_run0 (stp_move (.dat _) rfl) ?_
  refine seq_run0 (t_len tyU41 rfl) ?_
  refine seq_run0 (stp_move (.dat _) rfl) ?_
  refine seq_run0 (t_len tyU41 rfl) ?_
  refine seq_run0 (stp_neq rfl rfl) ?_
  refine awp_cond _ rfl (fun h3 => ?_) (fun h3 => ?_)
  · replace H := ift h3 H
    refine awp_seq ?_
    refine awp_plain hN rfl ?_
    refine seq_run0 (stp_assign (.dat _) rfl) ?_
    refine awp_ret ?_
    cases H
    exact ⟨trivial, .inl rfl, trivial⟩
  · replace H := iff_ h3 H
    refine awp_skip ?_
    refine awp_seq ?_
    refine awp_seq ?_
    refine awp_plain hN rfl ?_
    refine seq_run0 (stp_move (.dat _) rfl) ?_
    refine seq_run0 (t_len tyU41 rfl) ?_
    refine seq_run0 (stp_move (.dat _) rfl) ?_
    refine awp_block ?_
    obtain ⟨h6, H⟩ := gif H
    refine awp_forL (fun (k4 : Nat) (s : Unit) => [(0, .dat (vlst (List.map C_string s1))), (1, .dat (vlst (List.map C_string s2))), (12, .dat (vint (s1.length : Int))), (13, .dat (vint (k4 : Int)))]) (fun (k4 : Nat) (s : Unit) => []) () H ⟨rfl, rfl, rfl, rfl, trivial⟩ trivial (fun _ _ => rfl) ?_ ?_
    · rintro ⟨⟩ H
      replace H : slices_Equal_L_string_string__E1 = some r := H
      unfold slices_Equal_L_string_string__E1 at H
      refine awp_seq ?_
      refine awp_plain hN rfl ?_
      refine seq_run0 (stp_lss rfl rfl) ?_
      refine awp_seq ?_
      refine awp_cond _ rfl (fun h => (lt_t h).elim) (fun h => ?_)
      refine awp_exit ?_
      refine awp_seq ?_
      refine awp_plain hN rfl ?_
      refine seq_run0 (stp_assign (.dat _) rfl) ?_
      refine awp_ret ?_
      cases H
      exact ⟨trivial, .inl rfl, trivial⟩
    · rintro k4 x7 ⟨⟩ q5 h8 h9 H hq5
      replace H : slices_Equal_L_string_string__L1 s2 k4 x7 = some q5 := H
      unfold slices_Equal_L_string_string__L1 at H
      refine awp_seq ?_
      refine awp_plain hN rfl ?_
      refine seq_run0 (stp_lss rfl rfl) ?_
      refine awp_seq ?_
      refine awp_cond _ rfl (fun h => ?_) (fun h => (lt_f h8 h).elim)
      refine awp_skip ?_
      refine awp_seq ?_
      refine awp_block ?_
      refine awp_seq ?_
      refine awp_plain hN rfl ?_
      refine seq_run0 (stp_move (.dat _) rfl) ?_
      refine seq_run0 (stp_assign (.dat _) rfl) ?_
      refine awp_seq ?_
      refine awp_draw mixed hN rfl rfl ?_
      refine seq_run0 (stp_move (.dat _) rfl) ?_
      refine seq_run0 (stp_move (.dat _) rfl) ?_
      refine seq_run0 (t_idx tyE41 (fun _ => rfl) rfl rfl h9) ?_
      refine seq_run0 (stp_loadE1 tyS9 rfl (map_at h9) rfl) ?_
      refine seq_run0 (stp_move (.dat _) rfl) ?_
      refine seq_run0 (stp_move (.dat _) rfl) ?_
      obtain ⟨x10, h11, H⟩ := bnd H
      refine seq_run0 (t_idx tyE41 (fun _ => rfl) rfl rfl h11) ?_
      refine seq_run0 (stp_loadE1 tyS9 rfl (map_at h11) rfl) ?_
      refine seq_run0 (stp_sneq rfl rfl) ?_
      refine ⟨rfl, ?_⟩
      refine awp_cond _ rfl (fun h12 => ?_) (fun h12 => ?_)
      · replace H := ift h12 H
        refine awp_seq ?_
        refine awp_plain hN rfl ?_
        refine seq_run0 (stp_assign (.dat _) rfl) ?_
        refine awp_ret ?_
        replace H := retl H hq5
        cases H
        exact ⟨trivial, .inl rfl, trivial⟩
      · replace H := iff_ h12 H
        refine awp_skip ?_
        refine awp_plain hN rfl ?_
        refine seq_run0 (stp_add rfl rfl (by omega)) ?_
        refine seq_run0 (stp_move (.dat _) rfl) ?_
        exact ⟨_, backl H, ⟨rfl, rfl, rfl, rfl, trivial⟩, trivial⟩
theorem k_gatelaw2_spoken  (r : (Bool)) (H : m_gatelaw2_spoken  = some r) : Fn Tryz.prog 17 [] (resOf [vbool r]) := by
  refine ⟨by kernel_rfl, pure_of (us := [vbool r]) Tryz.func17 rfl rfl rfl rfl fun X hN => ?_⟩
  unfold m_gatelaw2_spoken at H
  refine awp_seq ?_
  refine awp_plain hN rfl ?_
  refine seq_run0 (stp_assign (.dat _) rfl) ?_
  refine awp_seq ?_
  refine awp_plain hN rfl ?_
  obtain ⟨r1, h2, H⟩ := bnd H
  refine seq_run0 (stp_call (k_message_NormalPath [47, 97, 47, 46, 46, 47, 98] r1 h2) ⟨.inl rfl, trivial⟩) ?_
  refine seq_run0 (stp_move (.dat _) rfl) ?_
  refine seq_run0 (stp_ext rfl rfl) ?_
  refine seq_run0 (stp_ext rfl rfl) ?_
  refine seq_run0 (stp_assign (.dat _) rfl) ?_
  refine seq_run0 (stp_assign (.dat _) rfl) ?_
  refine awp_seq ?_
  refine awp_plain hN rfl ?_
  refine seq_run0 (stp_move (.dat _) rfl) ?_
  refine seq_run0 (stp_eql rfl rfl) ?_
  refine seq_run0 (stp_move (.dat _) rfl) ?_
  refine seq_aT rfl rfl (fun hc => stp_move (.dat _) rfl) ?_
  refine seq_aT rfl rfl (fun hc => stp_seql (cnd (c := (decide (r1.2 = 0))) hc) rfl) ?_
  refine seq_run0 (stp_pick_and rfl (fun hb => (cnd (c := (decide (r1.2 = 0))) hb)) rfl) ?_
  refine seq_run0 (stp_assign (.dat _) rfl) ?_
  refine awp_ret ?_
  cases H
  exact ⟨trivial, .inl rfl, trivial⟩
theorem k_gatelaw2_PathsNormal (v1 : (List Int)) (r : (Bool)) (H : m_gatelaw2_PathsNormal v1 = some r) : Fn Tryz.prog 4 [vlst (List.map C_int v1)] (resOf [vbool r]) := by
  refine ⟨by kernel_rfl, pure_of (us := [vbool r]) Tryz.func4 rfl rfl rfl rfl fun X hN => ?_⟩
  unfold m_gatelaw2_PathsNormal at H
  refine awp_seq ?_
  refine awp_plain hN rfl ?_
  refine seq_run0 (stp_assign (.dat _) rfl) ?_
  refine awp_seq ?_
  refine awp_plain hN rfl ?_
  refine seq_run0 (stp_move (.dat _) rfl) ?_
  refine seq_run0 (stp_dat (u' := vagg (C_gatemake_Stream (S_gatemake_Stream.mk v1 0))) (stp_build [(0, [vlst (List.map C_int v1)])] tyZ25 tyP25 rfl ⟨rfl, .inl ⟨_, rfl, rfl, rfl⟩, rfl, trivial⟩) rfl) ?_
  refine seq_run2 (stp_boxA 1 rfl) rfl ?_
  refine seq_run0 (stp_assign (.ptr _ _) rfl) ?_
  refine awp_seq ?_
  refine awp_plain hN rfl ?_
  refine seq_run0 (stp_move (.ptr _ _) rfl) ?_
  obtain ⟨r2, h3, H⟩ := bnd H
  refine seq_run2 (stp_imp (k_gatemake_Stream_HostName (S_gatemake_Stream.mk v1 0) r2 h3) rfl trivial rfl) rfl ?_
  refine seq_run0 (stp_move (.ptr _ _) rfl) ?_
  obtain ⟨r4, h5, H⟩ := bnd H
  refine seq_run2 (stp_imp (k_gatemake_Stream_PathName r2.2 r4 h5) rfl trivial rfl) rfl ?_
  refine seq_run0 (stp_assign (.dat _) rfl) ?_
  refine seq_run0 (stp_assign (.dat _) rfl) ?_
  refine awp_seq ?_
  refine awp_plain hN rfl ?_
  refine seq_run0 (stp_assign (.dat _) rfl) ?_
  refine awp_seq ?_
  refine awp_seq ?_
  refine awp_plain hN rfl ?_
  refine seq_run0 (stp_move (.ptr _ _) rfl) ?_
  obtain ⟨r6, h7, H⟩ := bnd H
  refine seq_run2 (stp_imp (k_gatemake_Stream_Range r4.2 0 4 r6 h7) rfl ⟨.inl rfl, .inl rfl, trivial⟩ rfl) rfl ?_
  refine seq_run0 (stp_move (.dat _) rfl) ?_
  refine awp_block ?_
  refine awp_nilrow 6 2 9 1 rfl rfl rfl ?_
  obtain ⟨h13, H⟩ := gif H
  refine awp_rng (fun (k11 : Nat) (s : (List Int) × Int × (List Bs)) => [(3, .ptr 1 0), (4, .dat (vstr r2.1)), (5, .dat (vstr r4.1)), (6, .row 2 s.2.2.length), (31, .dat (vint r6.1)), (32, .dat (vint (k11 : Int)))]) (fun (k11 : Nat) (s : (List Int) × Int × (List Bs)) => [(1, .box none 25 [.dat (vlst (List.map C_int s.1)), .dat (vint s.2.1)]), (2, .row 9 1 (List.map C_string s.2.2))]) (r6.2.L, r6.2.at_, []) H ⟨rfl, rfl, rfl, congrArg (Slot.row 2) (by simp), rfl, rfl, trivial⟩ ⟨rfl, rfl, trivial⟩ (fun _ _ => rfl) ?_ ?_
  · rintro ⟨c8, c9, l10⟩ H
    replace H : gatelaw2_PathsNormal_E1 r2 r4 c8 c9 l10 = some r := H
    unfold gatelaw2_PathsNormal_E1 at H
    refine awp_seq ?_
    refine awp_plain hN rfl ?_
    refine seq_run0 (stp_lss rfl rfl) ?_
    refine awp_seq ?_
    refine awp_cond _ rfl (fun h => (lt_tI h).elim) (fun h => ?_)
    refine awp_exit ?_
    refine awp_joinE (ι := (List Bs) × (List Int) × Int) (fun i => [(3, .ptr 1 0), (4, .dat (vstr r2.1)), (5, .dat (vstr r4.1)), (6, .row 2 i.1.length)]) (fun i => [(1, .box none 25 [.dat (vlst (List.map C_int i.2.1)), .dat (vint i.2.2)]), (2, .row 9 1 (List.map C_string i.1))]) (fun i => gatelaw2_PathsNormal_J2 r2 r4 i.1 i.2.1 i.2.2 = some r) (fun i => rfl) ?_ ?_
    · skip
      refine awp_seq ?_
      refine awp_plain hN rfl ?_
      refine seq_run0 (stp_move (.ptr _ _) rfl) ?_
      obtain ⟨r14, h15, H⟩ := bnd H
      refine seq_run2 (stp_imp (k_gatemake_Stream_Flip (S_gatemake_Stream.mk c8 c9) 12 r14 h15) rfl ⟨.inl rfl, trivial⟩ rfl) rfl ?_
      refine awp_cond _ rfl (fun h16 => ?_) (fun h16 => ?_)
      · replace H := ift h16 H
        refine awp_plain hN rfl ?_
        refine seq_run0 (stp_move (.row _ _) rfl) ?_
        refine seq_run0 (stp_move (.ptr _ _) rfl) ?_
        refine seq_run0 (stp_dat (u' := vlst (List.map C_string [[46], [46, 46], [46, 46, 46]])) (stp_lit [[_], [_], [_]] tyL41 ⟨rfl, .inl ⟨_, rfl, rfl, rfl⟩, rfl, rfl, .inl ⟨_, rfl, rfl, rfl⟩, rfl, rfl, .inl ⟨_, rfl, rfl, rfl⟩, rfl, trivial⟩ rfl rfl) rfl) ?_
        obtain ⟨r17, h18, H⟩ := bnd H
        refine seq_run2 (stp_imp (k_gatemake_Stream_Some r14.2 ([[46], [46, 46], [46, 46, 46]]) r17 h18) rfl ⟨.inl rfl, trivial⟩ rfl) rfl ?_
        refine seq_run0 (stp_dat (u' := vlst (List.map C_string [r17.1])) (stp_lit [[_]] tyL41 ⟨rfl, .inl ⟨_, rfl, rfl, rfl⟩, rfl, trivial⟩ rfl rfl) rfl) ?_
        obtain ⟨h19, H⟩ := gif H
        refine seq_run2 (t_app tyL41 (fun _ => rfl) rfl rfl rfl ⟨by simp, by simpa using h19⟩ rfl) rfl ?_
        refine seq_run0 (stp_assign (.row _ _) rfl) ?_
        exact ⟨((l10 ++ [r17.1]), r17.2.L, r17.2.at_), H, ⟨rfl, rfl, rfl, rfl, trivial⟩, ⟨rfl, rfl, trivial⟩⟩
      · replace H := iff_ h16 H
        refine awp_skip ?_
        exact ⟨(l10, r14.2.L, r14.2.at_), H, ⟨rfl, rfl, rfl, rfl, trivial⟩, ⟨rfl, rfl, trivial⟩⟩
    · rintro ⟨v20, c21, c22⟩ H
      replace H : gatelaw2_PathsNormal_J2 r2 r4 v20 c21 c22 = some r := H
      unfold gatelaw2_PathsNormal_J2 at H
      refine awp_joinZ (ι := (List Bs)) (fun i => [(4, .dat (vstr r2.1)), (5, .dat (vstr r4.1)), (6, .dat (vlst (List.map C_string i)))]) (fun i => []) (fun i => gatelaw2_PathsNormal_J3 r2 r4 i = some r) (fun i => rfl) (fun i => rfl) ?_ ?_
      · skip
        refine awp_seq ?_
        refine awp_plain hN rfl ?_
        refine seq_run0 (stp_move (.ptr _ _) rfl) ?_
        obtain ⟨r23, h24, H⟩ := bnd H
        refine seq_run2 (stp_imp (k_gatemake_Stream_Flip (S_gatemake_Stream.mk c21 c22) 40 r23 h24) rfl ⟨.inl rfl, trivial⟩ rfl) rfl ?_
        refine awp_cond _ rfl (fun h25 => ?_) (fun h25 => ?_)
        · replace H := ift h25 H
          refine awp_seq ?_
          refine awp_plain hN rfl ?_
          refine seq_run0 (stp_move (.ptr _ _) rfl) ?_
          refine seq_run0 (stp_dat (u' := vlst (List.map C_int [100, 101])) (stp_lit [[_], [_]] tyL22 ⟨rfl, .inl ⟨_, rfl, rfl, rfl⟩, rfl, rfl, .inl ⟨_, rfl, rfl, rfl⟩, rfl, trivial⟩ rfl rfl) rfl) ?_
          obtain ⟨r26, h27, H⟩ := bnd H
          refine seq_run2 (stp_imp (k_gatemake_Stream_Pick r23.2 [100, 101] r26 h27) rfl ⟨.inl rfl, trivial⟩ rfl) rfl ?_
          obtain ⟨h28, H⟩ := gif H
          refine seq_run2 (t_makeW (C := C_string) 3 [] tyL41 tyZ9 rfl (by exact ⟨wk_rfl, trivial⟩) rfl rfl h28 rfl) rfl ?_
          refine seq_run0 (stp_assign (.row _ _) rfl) ?_
          refine awp_draw mixed hN rfl rfl ?_
          refine seq_run0 (stp_move (.row _ _) rfl) ?_
          refine seq_run0 (stp_move (.ptr _ _) rfl) ?_
          obtain ⟨h29, H⟩ := gif H
          refine seq_run0 (t_makeD (C := C_uint8) (0 : Int) tyL46 tyZ5 rfl rfl rfl rfl h29 rfl) ?_
          refine seq_run0 (stp_convB (C := C_uint8) tyU46 tyU5 tyU9 (fun _ => rfl) rfl) ?_
          obtain ⟨h30, H⟩ := gif H
          refine seq_run0 (t_makeD (C := C_uint8) (0 : Int) tyL46 tyZ5 rfl rfl rfl rfl h30 rfl) ?_
          refine seq_run0 (stp_convB (C := C_uint8) tyU46 tyU5 tyU9 (fun _ => rfl) rfl) ?_
          obtain ⟨h31, H⟩ := gif H
          refine seq_run0 (t_makeD (C := C_uint8) (0 : Int) tyL46 tyZ5 rfl rfl rfl rfl h31 rfl) ?_
          refine seq_run0 (stp_convB (C := C_uint8) tyU46 tyU5 tyU9 (fun _ => rfl) rfl) ?_
          refine seq_run0 (stp_dat (u' := vlst (List.map C_string [[120], (strN (List.replicate ((300 : Int).toNat) (0 : Int))), (strN (List.replicate ((320 : Int).toNat) (0 : Int))), (strN (List.replicate ((340 : Int).toNat) (0 : Int)))])) (stp_lit [[_], [_], [_], [_]] tyL41 ⟨rfl, .inl ⟨_, rfl, rfl, rfl⟩, rfl, rfl, .inl ⟨_, rfl, rfl, rfl⟩, rfl, rfl, .inl ⟨_, rfl, rfl, rfl⟩, rfl, rfl, .inl ⟨_, rfl, rfl, rfl⟩, rfl, trivial⟩ rfl rfl) rfl) ?_
          obtain ⟨r32, h33, H⟩ := bnd H
          refine seq_run2 (stp_imp (k_gatemake_Stream_Some r26.2 ([[120], (strN (List.replicate ((300 : Int).toNat) (0 : Int))), (strN (List.replicate ((320 : Int).toNat) (0 : Int))), (strN (List.replicate ((340 : Int).toNat) (0 : Int)))]) r32 h33) rfl ⟨.inl rfl, trivial⟩ rfl) rfl ?_
          obtain ⟨x34, h35, H⟩ := bnd H
          refine seq_run1 (t_idxR tyE41 rfl (by simp) rfl h35) rfl ?_
          refine seq_run2 (t_storeR r32.1 tyS9 rfl rfl rfl (by simp) h35 rfl rfl) rfl ?_
          refine ⟨rfl, ?_⟩
          exact ⟨[(6, 3)], _, _, _, _, rfl, rfl, by simp, ⟨((List.replicate (r26.1.toNat) []).set 0 r32.1), H, ⟨.inl rfl, .inl rfl, .inl rfl, trivial⟩, trivial⟩⟩
        · replace H := iff_ h25 H
          refine awp_skip ?_
          exact ⟨[(6, 2)], _, _, _, _, rfl, rfl, by simp, ⟨v20, H, ⟨.inl rfl, .inl rfl, .inl rfl, trivial⟩, trivial⟩⟩
      · rintro v36 H
        replace H : gatelaw2_PathsNormal_J3 r2 r4 v36 = some r := H
        unfold gatelaw2_PathsNormal_J3 at H
        refine awp_seq ?_
        refine awp_plain hN rfl ?_
        refine seq_run0 (stp_move (.dat _) rfl) ?_
        obtain ⟨r37, h38, H⟩ := bnd H
        refine seq_run0 (stp_call (k_message_NormalHost r2.1 r37 h38) ⟨.inl rfl, trivial⟩) ?_
        refine seq_run0 (stp_move (.dat _) rfl) ?_
        refine seq_run0 (stp_ext rfl rfl) ?_
        refine seq_run0 (stp_ext rfl rfl) ?_
        refine seq_run0 (stp_assign (.dat _) rfl) ?_
        refine seq_run0 (stp_assign (.dat _) rfl) ?_
        refine awp_seq ?_
        refine awp_plain hN rfl ?_
        refine seq_run0 (stp_move (.dat _) rfl) ?_
        obtain ⟨r39, h40, H⟩ := bnd H
        refine seq_run0 (stp_call (k_gateref2_HostOf r2.1 r39 h40) ⟨.inl rfl, trivial⟩) ?_
        refine seq_run0 (stp_move (.dat _) rfl) ?_
        refine seq_run0 (stp_ext rfl rfl) ?_
        refine seq_run0 (stp_ext rfl rfl) ?_
        refine seq_run0 (stp_assign (.dat _) rfl) ?_
        refine seq_run0 (stp_assign (.dat _) rfl) ?_
        refine awp_seq ?_
        refine awp_plain hN rfl ?_
        refine seq_run0 (stp_move (.dat _) rfl) ?_
        obtain ⟨r41, h42, H⟩ := bnd H
        refine seq_run0 (stp_call (k_message_NormalPath r4.1 r41 h42) ⟨.inl rfl, trivial⟩) ?_
        refine seq_run0 (stp_move (.dat _) rfl) ?_
        refine seq_run0 (stp_ext rfl rfl) ?_
        refine seq_run0 (stp_ext rfl rfl) ?_
        refine seq_run0 (stp_assign (.dat _) rfl) ?_
        refine seq_run0 (stp_assign (.dat _) rfl) ?_
        refine awp_seq ?_
        refine awp_plain hN rfl ?_
        refine seq_run0 (stp_move (.dat _) rfl) ?_
        obtain ⟨r43, h44, H⟩ := bnd H
        refine seq_run0 (stp_call (k_gateref2_PathOf r4.1 r43 h44) ⟨.inl rfl, trivial⟩) ?_
        refine seq_run0 (stp_move (.dat _) rfl) ?_
        refine seq_run0 (stp_ext rfl rfl) ?_
        refine seq_run0 (stp_ext rfl rfl) ?_
        refine seq_run0 (stp_assign (.dat _) rfl) ?_
        refine seq_run0 (stp_assign (.dat _) rfl) ?_
        refine awp_seq ?_
        refine awp_plain hN rfl ?_
        refine seq_run0 (stp_move (.dat _) rfl) ?_
        obtain ⟨r45, h46, H⟩ := bnd H
        refine seq_run0 (stp_call (k_message_Segments r4.1 r45 h46) ⟨.inl rfl, trivial⟩) ?_
        refine seq_run0 (stp_move (.dat _) rfl) ?_
        refine seq_run0 (stp_ext rfl rfl) ?_
        refine seq_run0 (stp_ext rfl rfl) ?_
        refine seq_run0 (stp_assign (.dat _) rfl) ?_
        refine seq_run0 (stp_assign (.dat _) rfl) ?_
        refine awp_seq ?_
        refine awp_plain hN rfl ?_
        refine seq_run0 (stp_move (.dat _) rfl) ?_
        obtain ⟨r47, h48, H⟩ := bnd H
        refine seq_run0 (stp_call (k_gateref2_SegmentsOf r4.1 r47 h48) ⟨.inl rfl, trivial⟩) ?_
        refine seq_run0 (stp_move (.dat _) rfl) ?_
        refine seq_run0 (stp_ext rfl rfl) ?_
        refine seq_run0 (stp_ext rfl rfl) ?_
        refine seq_run0 (stp_assign (.dat _) rfl) ?_
        refine seq_run0 (stp_assign (.dat _) rfl) ?_
        refine awp_seq ?_
        refine awp_plain hN rfl ?_
        refine seq_run0 (stp_move (.dat _) rfl) ?_
        obtain ⟨r49, h50, H⟩ := bnd H
        refine seq_run0 (stp_call (k_message_JoinPath v36 r49 h50) ⟨.inl rfl, trivial⟩) ?_
        refine seq_run0 (stp_move (.dat _) rfl) ?_
        refine seq_run0 (stp_ext rfl rfl) ?_
        refine seq_run0 (stp_ext rfl rfl) ?_
        refine seq_run0 (stp_assign (.dat _) rfl) ?_
        refine seq_run0 (stp_assign (.dat _) rfl) ?_
        refine awp_seq ?_
        refine awp_plain hN rfl ?_
        refine seq_run0 (stp_move (.dat _) rfl) ?_
        obtain ⟨r51, h52, H⟩ := bnd H
        refine seq_run0 (stp_call (k_gateref2_PathFrom v36 r51 h52) ⟨.inl rfl, trivial⟩) ?_
        refine seq_run0 (stp_move (.dat _) rfl) ?_
        refine seq_run0 (stp_ext rfl rfl) ?_
        refine seq_run0 (stp_ext rfl rfl) ?_
        refine seq_run0 (stp_assign (.dat _) rfl) ?_
        refine seq_run0 (stp_assign (.dat _) rfl) ?_
        refine awp_joinE (ι := Bool) (fun i => [(2, .dat (vbool i))]) (fun i => []) (fun i => gatelaw2_PathsNormal_J4 i = some r) (fun i => rfl) ?_ ?_
        · skip
          refine awp_plain hN rfl ?_
          refine seq_run0 (stp_move (.dat _) rfl) ?_
          refine seq_run0 (stp_move (.dat _) rfl) ?_
          refine seq_run0 (stp_seql rfl rfl) ?_
          refine seq_run0 (stp_move (.dat _) rfl) ?_
          refine seq_split (j := 3) rfl rfl (fun h53 => ?_) (fun h53 => ?_) rfl
          · have h54 := un1 h53
            replace H := ift h54 H
            refine seq_g0 rfl rfl h53 (stp_move (.dat _) rfl) ?_
            refine seq_g0 rfl rfl h53 (stp_move (.dat _) rfl) ?_
            refine seq_g0 rfl rfl h53 (stp_eql rfl rfl) ?_
            refine seq_run0 (stp_pick_t rfl (bTT h54) rfl) ?_
            refine seq_run0 (stp_move (.dat _) rfl) ?_
            refine seq_split (j := 8) rfl rfl (fun h55 => ?_) (fun h55 => ?_) rfl
            · have h56 := un1 h55
              replace H := ift h56 H
              refine seq_g0 rfl rfl h55 (stp_move (.dat _) rfl) ?_
              refine seq_g0 rfl rfl h55 (stp_move (.dat _) rfl) ?_
              refine seq_g0 rfl rfl h55 (stp_seql rfl rfl) ?_
              refine seq_run0 (stp_pick_t rfl (bTT h56) rfl) ?_
              refine seq_run0 (stp_move (.dat _) rfl) ?_
              refine seq_split (j := 13) rfl rfl (fun h57 => ?_) (fun h57 => ?_) rfl
              · have h58 := un1 h57
                replace H := ift h58 H
                refine seq_g0 rfl rfl h57 (stp_move (.dat _) rfl) ?_
                refine seq_g0 rfl rfl h57 (stp_move (.dat _) rfl) ?_
                refine seq_g0 rfl rfl h57 (stp_eql rfl rfl) ?_
                refine seq_run0 (stp_pick_t rfl (bTT h58) rfl) ?_
                refine seq_run0 (stp_move (.dat _) rfl) ?_
                refine seq_split (j := 18) rfl rfl (fun h59 => ?_) (fun h59 => ?_) rfl
                · have h60 := un1 h59
                  replace H := ift h60 H
                  refine seq_g0 rfl rfl h59 (stp_move (.dat _) rfl) ?_
                  refine seq_g0 rfl rfl h59 (stp_move (.dat _) rfl) ?_
                  obtain ⟨r61, h62, H⟩ := bnd H
                  refine seq_g0 rfl rfl h59 (stp_call (k_slices_Equal_L_string_string_ r45.1 r47.1 r61 h62) ⟨.inl rfl, .inl rfl, trivial⟩) ?_
                  refine seq_run0 (stp_pick_t rfl (bTT h60) rfl) ?_
                  refine seq_run0 (stp_move (.dat _) rfl) ?_
                  refine seq_split (j := 23) rfl rfl (fun h63 => ?_) (fun h63 => ?_) rfl
                  · have h64 := un1 h63
                    replace H := ift h64 H
                    refine seq_g0 rfl rfl h63 (stp_move (.dat _) rfl) ?_
                    refine seq_g0 rfl rfl h63 (stp_move (.dat _) rfl) ?_
                    refine seq_g0 rfl rfl h63 (stp_eql rfl rfl) ?_
                    refine seq_run0 (stp_pick_t rfl (bTT h64) rfl) ?_
                    refine seq_run0 (stp_move (.dat _) rfl) ?_
                    refine seq_split (j := 28) rfl rfl (fun h65 => ?_) (fun h65 => ?_) rfl
                    · have h66 := un1 h65
                      replace H := ift h66 H
                      refine seq_g0 rfl rfl h65 (stp_move (.dat _) rfl) ?_
                      refine seq_g0 rfl rfl h65 (stp_move (.dat _) rfl) ?_
                      refine seq_g0 rfl rfl h65 (stp_seql rfl rfl) ?_
                      refine seq_run0 (stp_pick_t rfl (bTT h66) rfl) ?_
                      refine seq_run0 (stp_move (.dat _) rfl) ?_
                      refine seq_split (j := 33) rfl rfl (fun h67 => ?_) (fun h67 => ?_) rfl
                      · have h68 := un1 h67
                        replace H := ift h68 H
                        refine seq_g0 rfl rfl h67 (stp_move (.dat _) rfl) ?_
                        refine seq_g0 rfl rfl h67 (stp_move (.dat _) rfl) ?_
                        refine seq_g0 rfl rfl h67 (stp_eql rfl rfl) ?_
                        refine seq_run0 (stp_pick_t rfl (bTT h68) rfl) ?_
                        refine seq_run0 (stp_move (.dat _) rfl) ?_
                        refine seq_split (j := 38) rfl rfl (fun h69 => ?_) (fun h69 => ?_) rfl
                        · have h70 := un1 h69
                          replace H := ift h70 H
                          obtain ⟨r71, h72, H⟩ := bnd H
                          refine seq_g0 rfl rfl h69 (stp_call (k_gatelaw2_spoken  r71 h72) trivial) ?_
                          refine seq_run0 (stp_pick_t rfl (bTT h70) rfl) ?_
                          refine seq_run0 (stp_assign (.dat _) rfl) ?_
                          exact ⟨r71, H, ⟨rfl, trivial⟩, trivial⟩
                        · have h73 := un2 h69
                          replace H := iff_ h73 H
                          refine seq_skip rfl rfl h69 ?_
                          refine seq_run0 (stp_pick_f rfl (bFF h73) rfl) ?_
                          refine seq_run0 (stp_assign (.dat _) rfl) ?_
                          exact ⟨false, H, ⟨rfl, trivial⟩, trivial⟩
                      · have h74 := un2 h67
                        replace H := iff_ h74 H
                        refine seq_skip rfl rfl h67 ?_
                        refine seq_skip rfl rfl h67 ?_
                        refine seq_skip rfl rfl h67 ?_
                        refine seq_run0 (stp_pick_f rfl (bFF h74) rfl) ?_
                        refine seq_run0 (stp_move (.dat _) rfl) ?_
                        refine seq_skip rfl rfl rfl ?_
                        refine seq_run0 (stp_pick_f rfl rfl rfl) ?_
                        refine seq_run0 (stp_assign (.dat _) rfl) ?_
                        exact ⟨false, H, ⟨rfl, trivial⟩, trivial⟩
                    · have h75 := un2 h65
                      replace H := iff_ h75 H
                      refine seq_skip rfl rfl h65 ?_
                      refine seq_skip rfl rfl h65 ?_
                      refine seq_skip rfl rfl h65 ?_
                      refine seq_run0 (stp_pick_f rfl (bFF h75) rfl) ?_
                      refine seq_run0 (stp_move (.dat _) rfl) ?_
                      refine seq_skip rfl rfl rfl ?_
                      refine seq_skip rfl rfl rfl ?_
                      refine seq_skip rfl rfl rfl ?_
                      refine seq_run0 (stp_pick_f rfl rfl rfl) ?_
                      refine seq_run0 (stp_move (.dat _) rfl) ?_
                      refine seq_skip rfl rfl rfl ?_
                      refine seq_run0 (stp_pick_f rfl rfl rfl) ?_
                      refine seq_run0 (stp_assign (.dat _) rfl) ?_
                      exact ⟨false, H, ⟨rfl, trivial⟩, trivial⟩
                  · have h76 := un2 h63
                    replace H := iff_ h76 H
                    refine seq_skip rfl rfl h63 ?_
                    refine seq_skip rfl rfl h63 ?_
                    refine seq_skip rfl rfl h63 ?_
                    refine seq_run0 (stp_pick_f rfl (bFF h76) rfl) ?_
                    refine seq_run0 (stp_move (.dat _) rfl) ?_
                    refine seq_skip rfl rfl rfl ?_
                    refine seq_skip rfl rfl rfl ?_
                    refine seq_skip rfl rfl rfl ?_
                    refine seq_run0 (stp_pick_f rfl rfl rfl) ?_
                    refine seq_run0 (stp_move (.dat _) rfl) ?_
                    refine seq_skip rfl rfl rfl ?_
                    refine seq_skip rfl rfl rfl ?_
                    refine seq_skip rfl rfl rfl ?_
                    refine seq_run0 (stp_pick_f rfl rfl rfl) ?_
                    refine seq_run0 (stp_move (.dat _) rfl) ?_
                    refine seq_skip rfl rfl rfl ?_
                    refine seq_run0 (stp_pick_f rfl rfl rfl) ?_
                    refine seq_run0 (stp_assign (.dat _) rfl) ?_
                    exact ⟨false, H, ⟨rfl, trivial⟩, trivial⟩
                · have h77 := un2 h59
                  replace H := iff_ h77 H
                  refine seq_skip rfl rfl h59 ?_
                  refine seq_skip rfl rfl h59 ?_
                  refine seq_skip rfl rfl h59 ?_
                  refine seq_run0 (stp_pick_f rfl (bFF h77) rfl) ?_
                  refine seq_run0 (stp_move (.dat _) rfl) ?_
                  refine seq_skip rfl rfl rfl ?_
                  refine seq_skip rfl rfl rfl ?_
                  refine seq_skip rfl rfl rfl ?_
                  refine seq_run0 (stp_pick_f rfl rfl rfl) ?_
                  refine seq_run0 (stp_move (.dat _) rfl) ?_
                  refine seq_skip rfl rfl rfl ?_
                  refine seq_skip rfl rfl rfl ?_
                  refine seq_skip rfl rfl rfl ?_
                  refine seq_run0 (stp_pick_f rfl rfl rfl) ?_
                  refine seq_run0 (stp_move (.dat _) rfl) ?_
                  refine seq_skip rfl rfl rfl ?_
                  refine seq_skip rfl rfl rfl ?_
                  refine seq_skip rfl rfl rfl ?_
                  refine seq_run0 (stp_pick_f rfl rfl rfl) ?_
                  refine seq_run0 (stp_move (.dat _) rfl) ?_
                  refine seq_skip rfl rfl rfl ?_
                  refine seq_run0 (stp_pick_f rfl rfl rfl) ?_
                  refine seq_run0 (stp_assign (.dat _) rfl) ?_
                  exact ⟨false, H, ⟨rfl, trivial⟩, trivial⟩
              · have h78 := un2 h57
                replace H := iff_ h78 H
                refine seq_skip rfl rfl h57 ?_
                refine seq_skip rfl rfl h57 ?_
                refine seq_skip rfl rfl h57 ?_
                refine seq_run0 (stp_pick_f rfl (bFF h78) rfl) ?_
                refine seq_run0 (stp_move (.dat _) rfl) ?_
                refine seq_skip rfl rfl rfl ?_
                refine seq_skip rfl rfl rfl ?_
                refine seq_skip rfl rfl rfl ?_
                refine seq_run0 (stp_pick_f rfl rfl rfl) ?_
                refine seq_run0 (stp_move (.dat _) rfl) ?_
                refine seq_skip rfl rfl rfl ?_
                refine seq_skip rfl rfl rfl ?_
                refine seq_skip rfl rfl rfl ?_
                refine seq_run0 (stp_pick_f rfl rfl rfl) ?_
                refine seq_run0 (stp_move (.dat _) rfl) ?_
                refine seq_skip rfl rfl rfl ?_
                refine seq_skip rfl rfl rfl ?_
                refine seq_skip rfl rfl rfl ?_
                refine seq_run0 (stp_pick_f rfl rfl rfl) ?_
                refine seq_run0 (stp_move (.dat _) rfl) ?_
                refine seq_skip rfl rfl rfl ?_
                refine seq_skip rfl rfl rfl ?_
                refine seq_skip rfl rfl rfl ?_
                refine seq_run0 (stp_pick_f rfl rfl rfl) ?_
                refine seq_run0 (stp_move (.dat _) rfl) ?_
                refine seq_skip rfl rfl rfl ?_
                refine seq_run0 (stp_pick_f rfl rfl rfl) ?_
                refine seq_run0 (stp_assign (.dat _) rfl) ?_
                exact ⟨false, H, ⟨rfl, trivial⟩, trivial⟩
            · have h79 := un2 h55
              replace H := iff_ h79 H
              refine seq_skip rfl rfl h55 ?_
              refine seq_skip rfl rfl h55 ?_
              refine seq_skip rfl rfl h55 ?_
              refine seq_run0 (stp_pick_f rfl (bFF h79) rfl) ?_
              refine seq_run0 (stp_move (.dat _) rfl) ?_
              refine seq_skip rfl rfl rfl ?_
              refine seq_skip rfl rfl rfl ?_
              refine seq_skip rfl rfl rfl ?_
              refine seq_run0 (stp_pick_f rfl rfl rfl) ?_
              refine seq_run0 (stp_move (.dat _) rfl) ?_
              refine seq_skip rfl rfl rfl ?_
              refine seq_skip rfl rfl rfl ?_
              refine seq_skip rfl rfl rfl ?_
              refine seq_run0 (stp_pick_f rfl rfl rfl) ?_
              refine seq_run0 (stp_move (.dat _) rfl) ?_
              refine seq_skip rfl rfl rfl ?_
              refine seq_skip rfl rfl rfl ?_
              refine seq_skip rfl rfl rfl ?_
              refine seq_run0 (stp_pick_f rfl rfl rfl) ?_
              refine seq_run0 (stp_move (.dat _) rfl) ?_
              refine seq_skip rfl rfl rfl ?_
              refine seq_skip rfl rfl rfl ?_
              refine seq_skip rfl rfl rfl ?_
              refine seq_run0 (stp_pick_f rfl rfl rfl) ?_
              refine seq_run0 (stp_move (.dat _) rfl) ?_
              refine seq_skip rfl rfl rfl ?_
              refine seq_skip rfl rfl rfl ?_
              refine seq_skip rfl rfl rfl ?_
              refine seq_run0 (stp_pick_f rfl rfl rfl) ?_
              refine seq_run0 (stp_move (.dat _) rfl) ?_
              refine seq_skip rfl rfl rfl ?_
              refine seq_run0 (stp_pick_f rfl rfl rfl) ?_
              refine seq_run0 (stp_assign (.dat _) rfl) ?_
              exact ⟨false, H, ⟨rfl, trivial⟩, trivial⟩
          · have h80 := un2 h53
            replace H := iff_ h80 H
            refine seq_skip rfl rfl h53 ?_
            refine seq_skip rfl rfl h53 ?_
            refine seq_skip rfl rfl h53 ?_
            refine seq_run0 (stp_pick_f rfl (bFF h80) rfl) ?_
            refine seq_run0 (stp_move (.dat _) rfl) ?_
            refine seq_skip rfl rfl rfl ?_
            refine seq_skip rfl rfl rfl ?_
            refine seq_skip rfl rfl rfl ?_
            refine seq_run0 (stp_pick_f rfl rfl rfl) ?_
            refine seq_run0 (stp_move (.dat _) rfl) ?_
            refine seq_skip rfl rfl rfl ?_
            refine seq_skip rfl rfl rfl ?_
            refine seq_skip rfl rfl rfl ?_
            refine seq_run0 (stp_pick_f rfl rfl rfl) ?_
            refine seq_run0 (stp_move (.dat _) rfl) ?_
            refine seq_skip rfl rfl rfl ?_
            refine seq_skip rfl rfl rfl ?_
            refine seq_skip rfl rfl rfl ?_
            refine seq_run0 (stp_pick_f rfl rfl rfl) ?_
            refine seq_run0 (stp_move (.dat _) rfl) ?_
            refine seq_skip rfl rfl rfl ?_
            refine seq_skip rfl rfl rfl ?_
            refine seq_skip rfl rfl rfl ?_
            refine seq_run0 (stp_pick_f rfl rfl rfl) ?_
            refine seq_run0 (stp_move (.dat _) rfl) ?_
            refine seq_skip rfl rfl rfl ?_
            refine seq_skip rfl rfl rfl ?_
            refine seq_skip rfl rfl rfl ?_
            refine seq_run0 (stp_pick_f rfl rfl rfl) ?_
            refine seq_run0 (stp_move (.dat _) rfl) ?_
            refine seq_skip rfl rfl rfl ?_
            refine seq_skip rfl rfl rfl ?_
            refine seq_skip rfl rfl rfl ?_
            refine seq_run0 (stp_pick_f rfl rfl rfl) ?_
            refine seq_run0 (stp_move (.dat _) rfl) ?_
            refine seq_skip rfl rfl rfl ?_
            refine seq_run0 (stp_pick_f rfl rfl rfl) ?_
            refine seq_run0 (stp_assign (.dat _) rfl) ?_
            exact ⟨false, H, ⟨rfl, trivial⟩, trivial⟩
        · rintro v81 H
          replace H : gatelaw2_PathsNormal_J4 v81 = some r := H
          unfold gatelaw2_PathsNormal_J4 at H
          refine awp_ret ?_
          cases H
          exact ⟨trivial, .inl rfl, trivial⟩
  · rintro k11 ⟨c8, c9, l10⟩ q12 h82 H hq12
    replace H : gatelaw2_PathsNormal_L1 k11 c8 c9 l10 = some q12 := H
    unfold gatelaw2_PathsNormal_L1 at H
    refine awp_seq ?_
    refine awp_plain hN rfl ?_
    refine seq_run0 (stp_lss rfl rfl) ?_
    refine awp_seq ?_
    refine awp_cond _ rfl (fun h => ?_) (fun h => (lt_fI h82 h).elim)
    refine awp_skip ?_
    refine awp_seq ?_
    refine awp_block ?_
    refine awp_plain hN rfl ?_
    refine seq_run0 (stp_move (.row _ _) rfl) ?_
    refine seq_run0 (stp_move (.ptr _ _) rfl) ?_
    refine seq_run0 (stp_dat (u' := vlst (List.map C_string [[97], [98, 32, 99], [97, 47, 98], [], [37], [255], [195, 164], [120, 59, 121, 61, 122, 64], [126], [97, 46, 98]])) (stp_lit [[_], [_], [_], [_], [_], [_], [_], [_], [_], [_]] tyL41 ⟨rfl, .inl ⟨_, rfl, rfl, rfl⟩, rfl, rfl, .inl ⟨_, rfl, rfl, rfl⟩, rfl, rfl, .inl ⟨_, rfl, rfl, rfl⟩, rfl, rfl, .inl ⟨_, rfl, rfl, rfl⟩, rfl, rfl, .inl ⟨_, rfl, rfl, rfl⟩, rfl, rfl, .inl ⟨_, rfl, rfl, rfl⟩, rfl, rfl, .inl ⟨_, rfl, rfl, rfl⟩, rfl, rfl, .inl ⟨_, rfl, rfl, rfl⟩, rfl, rfl, .inl ⟨_, rfl, rfl, rfl⟩, rfl, rfl, .inl ⟨_, rfl, rfl, rfl⟩, rfl, trivial⟩ rfl rfl) rfl) ?_
    obtain ⟨r83, h84, H⟩ := bnd H
    refine seq_run2 (stp_imp (k_gatemake_Stream_Some (S_gatemake_Stream.mk c8 c9) ([[97], [98, 32, 99], [97, 47, 98], [], [37], [255], [195, 164], [120, 59, 121, 61, 122, 64], [126], [97, 46, 98]]) r83 h84) rfl ⟨.inl rfl, trivial⟩ rfl) rfl ?_
    refine seq_run0 (stp_dat (u' := vlst (List.map C_string [r83.1])) (stp_lit [[_]] tyL41 ⟨rfl, .inl ⟨_, rfl, rfl, rfl⟩, rfl, trivial⟩ rfl rfl) rfl) ?_
    obtain ⟨h85, H⟩ := gif H
    refine seq_run2 (t_app tyL41 (fun _ => rfl) rfl rfl rfl ⟨by simp, by simpa using h85⟩ rfl) rfl ?_
    refine seq_run0 (stp_assign (.row _ _) rfl) ?_
    refine awp_plain hN rfl ?_
    refine seq_run0 (stp_add rfl rfl (by omega)) ?_
    refine seq_run0 (stp_move (.dat _) rfl) ?_
    exact ⟨_, backl H, ⟨rfl, rfl, rfl, rfl, rfl, rfl, trivial⟩, ⟨rfl, rfl, trivial⟩⟩
end Go.Proofs.YtbejggfkfaibeaaGreatDoor
