/- Walks along the models. Printed by a program. -/
import Derived.Test.YtmhghppkbppbjaaGreatDoorYqw2
namespace Go.Proofs.YtmhghppkbppbjaaGreatDoor
open Go.RowKit
set_option linter.unusedVariables false
set_option maxRecDepth 20000
theorem k_message_NormalPath (s1 : Bs) (r : (Bs × Int)) (H : m_message_NormalPath s1 = some r) : Fn Tryz.prog 50 [vstr s1] (resOf [vstr r.1, vint r.2]) := by
  refine ⟨by kernel_rfl, pure_of (us := [vstr r.1, vint r.2]) Tryz.func50 rfl rfl rfl rfl fun X hN => ?_⟩
  unfold m_message_NormalPath at H
  refine awp_seq ?_
  refine awp_plain hN rfl ?_
  refine seq_run0 (stp_assign (.dat _) rfl) ?_
  refine seq_run0 (stp_assign (.dat _) rfl) ?_
  refine awp_seq ?_
  refine awp_seq ?_
  refine awp_plain hN rfl ?_
  refine seq_run0 (stp_move (.dat _) rfl) ?_
  obtain ⟨r2, h3, H⟩ := bnd H
  refine seq_run0 (stp_call (k_message_PathFault s1 r2 h3) ⟨.inl rfl, trivial⟩) ?_
  refine seq_run0 (stp_assign (.dat _) rfl) ?_
  refine awp_seq ?_
  refine awp_plain hN rfl ?_
  refine seq_run0 (stp_move (.dat _) rfl) ?_
  refine seq_run0 (stp_neq rfl rfl) ?_
  refine awp_cond _ rfl (fun h4 => ?_) (fun h4 => ?_)
  · replace H := ift h4 H
    refine awp_seq ?_
    refine awp_plain hN rfl ?_
    refine seq_run0 (stp_move (.dat _) rfl) ?_
    refine seq_run0 (stp_assign (.dat _) rfl) ?_
    refine seq_run0 (stp_assign (.dat _) rfl) ?_
    refine awp_ret ?_
    cases H
    exact ⟨trivial, .inl rfl, .inl rfl, trivial⟩
  · replace H := iff_ h4 H
    refine awp_skip ?_
    refine awp_seq ?_
    refine awp_plain hN rfl ?_
    refine seq_run0 (stp_move (.dat _) rfl) ?_
    obtain ⟨r5, h6, H⟩ := bnd H
    refine seq_run0 (stp_call (k_message_normalUnits s1 r5 h6) ⟨.inl rfl, trivial⟩) ?_
    refine seq_run0 (stp_move (.dat _) rfl) ?_
    refine seq_run0 (stp_ext rfl rfl) ?_
    refine seq_run0 (stp_ext rfl rfl) ?_
    refine seq_run0 (stp_assign (.dat _) rfl) ?_
    refine seq_run0 (stp_assign (.dat _) rfl) ?_
    refine awp_seq ?_
    refine awp_seq ?_
    refine awp_plain hN rfl ?_
    refine seq_run0 (stp_move (.dat _) rfl) ?_
    refine seq_run0 (stp_not rfl) ?_
    refine awp_cond _ rfl (fun h7 => ?_) (fun h7 => ?_)
    · replace H := ift h7 H
      refine awp_seq ?_
      refine awp_plain hN rfl ?_
      refine seq_run0 (stp_assign (.dat _) rfl) ?_
      refine seq_run0 (stp_assign (.dat _) rfl) ?_
      refine awp_ret ?_
      cases H
      exact ⟨trivial, .inl rfl, .inl rfl, trivial⟩
    · replace H := iff_ h7 H
      refine awp_skip ?_
      refine awp_seq ?_
      refine awp_plain hN rfl ?_
      refine seq_run0 (stp_assign (.dat _) rfl) ?_
      refine awp_seq ?_
      refine awp_plain hN rfl ?_
      refine seq_run0 (stp_move (.dat _) rfl) ?_
      obtain ⟨l8, h9, H⟩ := bnd H
      refine seq_run0 (t_subS tyU9 rfl rfl rfl h9) ?_
      obtain ⟨r10, h11, H⟩ := bnd H
      refine seq_run0 (stp_call (k_strings_Split l8 [47] r10 h11) ⟨.inl rfl, .inl rfl, trivial⟩) ?_
      refine seq_run0 (stp_assign (.dat _) rfl) ?_
      refine awp_seq ?_
      refine awp_seq ?_
      refine awp_plain hN rfl ?_
      refine seq_run0 (stp_move (.dat _) rfl) ?_
      refine seq_run0 (t_len tyU43 rfl) ?_
      refine seq_run0 (stp_move (.dat _) rfl) ?_
      refine awp_block ?_
      refine awp_nilrow 6 1 9 1 rfl rfl rfl ?_
      obtain ⟨h15, H⟩ := gif H
      refine awp_forL (fun (k13 : Nat) (s : (List Bs)) => [(6, .row 1 s.length), (7, .dat (vlst (List.map C_string r10))), (25, .dat (vlst (List.map C_string r10))), (26, .dat (vint (r10.length : Int))), (27, .dat (vint (k13 : Int)))]) (fun (k13 : Nat) (s : (List Bs)) => [(1, .row 9 1 (List.map C_string s))]) [] H ⟨congrArg (Slot.row 1) (by simp), rfl, rfl, rfl, rfl, trivial⟩ ⟨rfl, trivial⟩ (fun _ _ => rfl) ?_ ?_
      · rintro l12 H
        replace H : message_NormalPath_E1 l12 = some r := H
        unfold message_NormalPath_E1 at H
        refine awp_seq ?_
        refine awp_plain hN rfl ?_
        refine seq_run0 (stp_lss rfl rfl) ?_
        refine awp_seq ?_
        refine awp_cond _ rfl (fun h => (lt_t h).elim) (fun h => ?_)
        refine awp_exit ?_
        refine awp_seq ?_
        refine t_freeze 6 1 rfl rfl rfl ?_
        refine awp_plain hN rfl ?_
        refine seq_run0 (stp_move (.dat _) rfl) ?_
        obtain ⟨r17, h18, H⟩ := bnd H
        refine seq_run0 (stp_call (k_strings_Join l12 [47] r17 h18) ⟨.inl rfl, .inl rfl, trivial⟩) ?_
        obtain ⟨h19, H⟩ := gif H
        refine seq_run0 (stp_sadd rfl rfl (Nat.le_trans h19 (by decide))) ?_
        refine seq_run0 (stp_assign (.dat _) rfl) ?_
        refine seq_run0 (stp_assign (.dat _) rfl) ?_
        refine awp_ret ?_
        cases H
        exact ⟨trivial, .inl rfl, .inl rfl, trivial⟩
      · rintro k13 x16 l12 q14 h20 h21 H hq14
        replace H : message_NormalPath_L1 r10 k13 x16 l12 = some q14 := H
        unfold message_NormalPath_L1 at H
        refine awp_cv ?_
        refine awp_seq ?_
        refine awp_plain hN rfl ?_
        refine seq_run0 (stp_lss rfl rfl) ?_
        refine awp_seq ?_
        refine awp_cond _ rfl (fun h => ?_) (fun h => (lt_f h20 h).elim)
        refine awp_skip ?_
        refine awp_joinE (ι := (List Bs)) (fun i => [(6, .row 4 i.length), (7, .dat (vlst (List.map C_string r10))), (25, .dat (vlst (List.map C_string r10))), (26, .dat (vint (r10.length : Int))), (27, .dat (vint (k13 : Int)))]) (fun i => [(4, .row 9 1 (List.map C_string i))]) (fun i => message_NormalPath_J2 i = some q14) (fun i => rfl) ?_ ?_
        · refine awp_cv ?_
          refine awp_block ?_
          refine awp_seq ?_
          refine awp_plain hN rfl ?_
          refine seq_run0 (stp_move (.dat _) rfl) ?_
          refine seq_run0 (t_idx tyE43 (fun _ => rfl) rfl rfl h21) ?_
          refine seq_run0 (stp_loadE1 tyS9 rfl (map_at h21) rfl) ?_
          refine seq_run0 (stp_assign (.dat _) rfl) ?_
          refine seq_run0 (stp_assign (.dat _) rfl) ?_
          refine awp_joinE (ι := (List Bs)) (fun i => [(6, .row 3 i.length), (7, .dat (vlst (List.map C_string r10))), (8, .dat (vint (k13 : Int))), (25, .dat (vlst (List.map C_string r10))), (26, .dat (vint (r10.length : Int))), (27, .dat (vint (k13 : Int)))]) (fun i => [(3, .row 9 1 (List.map C_string i))]) (fun i => message_NormalPath_J3 r10 k13 i = some q14) (fun i => rfl) ?_ ?_
          · refine awp_cv ?_
            refine awp_seq ?_
            refine awp_plain hN rfl ?_
            refine seq_run0 (stp_move (.dat _) rfl) ?_
            refine awp_block ?_
            refine awp_seq ?_
            refine awp_plain hN rfl ?_
            refine seq_run0 (stp_seql rfl rfl) ?_
            refine seq_run0 (stp_assign (.dat _) rfl) ?_
            refine awp_cond _ rfl (fun h22 => ?_) (fun h22 => ?_)
            · replace H := ift h22 H
              refine awp_skip ?_
              show Cv _ _ _ _
              refine cv_ren (rn [(1, 3)]) [(6, .row 1 l12.length), (7, .dat (vlst (List.map C_string r10))), (8, .dat (vint (k13 : Int))), (25, .dat (vlst (List.map C_string r10))), (26, .dat (vint (r10.length : Int))), (27, .dat (vint (k13 : Int)))] [(1, .row 9 1 (List.map C_string l12))] ⟨rfl, rfl, rfl, rfl, rfl, rfl, trivial⟩ ⟨rfl, trivial⟩ rfl rfl ?_
              exact ⟨l12, H, ⟨rfl, rfl, rfl, rfl, rfl, rfl, trivial⟩, ⟨rfl, trivial⟩⟩
            · replace H := iff_ h22 H
              refine awp_seq ?_
              refine awp_plain hN rfl ?_
              refine seq_run0 (stp_seql rfl rfl) ?_
              refine seq_run0 (stp_assign (.dat _) rfl) ?_
              refine awp_cond _ rfl (fun h23 => ?_) (fun h23 => ?_)
              · replace H := ift h23 H
                refine awp_plain hN rfl ?_
                refine seq_run0 (stp_move (.row _ _) rfl) ?_
                refine seq_run0 (stp_move (.row _ _) rfl) ?_
                refine seq_run1 (t_lenR tyU43 rfl rfl) rfl ?_
                refine seq_run0 (stp_wrap _ rfl rfl (.inr (.inl ⟨rfl, rfl⟩))) ?_
                refine seq_run0 (stp_max rfl rfl) ?_
                obtain ⟨h24, H⟩ := gif H
                refine seq_run3 (t_cut (C := C_string) 2 tyE43 rfl rfl rfl h24) rfl rfl ?_
                refine seq_run0 (stp_assign (.row _ _) rfl) ?_
                refine seq_end ?_
                show Cv _ _ _ _
                refine cv_ren (rn [(2, 3)]) [(6, .row 2 ((max (wr ((l12.length : Int) - 1)) 0).toNat)), (7, .dat (vlst (List.map C_string r10))), (8, .dat (vint (k13 : Int))), (25, .dat (vlst (List.map C_string r10))), (26, .dat (vint (r10.length : Int))), (27, .dat (vint (k13 : Int)))] [(2, .row 9 1 (List.map C_string (l12.take (max (wr ((l12.length : Int) - 1)) 0).toNat)))] ⟨rfl, rfl, rfl, rfl, rfl, rfl, trivial⟩ ⟨rfl, trivial⟩ rfl rfl ?_
                exact ⟨(l12.take (max (wr ((l12.length : Int) - 1)) 0).toNat), H, ⟨congrArg (Slot.row 3) ((cut_len h24)).symm, rfl, rfl, rfl, rfl, rfl, trivial⟩, ⟨rfl, trivial⟩⟩
              · replace H := iff_ h23 H
                refine awp_seq ?_
                refine awp_plain hN rfl ?_
                refine seq_run0 (stp_move (.row _ _) rfl) ?_
                refine seq_run0 (stp_move (.dat _) rfl) ?_
                refine seq_run0 (stp_dat (u' := vlst (List.map C_string [x16])) (stp_lit [[_]] tyL43 ⟨rfl, .inl ⟨_, rfl, rfl, rfl⟩, rfl, trivial⟩ rfl rfl) rfl) ?_
                obtain ⟨h25, H⟩ := gif H
                refine seq_run2 (t_app tyL43 (fun _ => rfl) rfl rfl rfl ⟨by simp, by simpa using h25⟩ rfl) rfl ?_
                refine seq_run0 (stp_assign (.row _ _) rfl) ?_
                refine awp_exit ?_
                show Cv _ _ _ _
                refine cv_in ?_
                show Cv _ _ _ _
                refine cv_ren (rn [(1, 4)]) [(6, .row 1 ((l12 ++ [x16]).length)), (7, .dat (vlst (List.map C_string r10))), (25, .dat (vlst (List.map C_string r10))), (26, .dat (vint (r10.length : Int))), (27, .dat (vint (k13 : Int)))] [(1, .row 9 1 (List.map C_string (l12 ++ [x16])))] ⟨rfl, rfl, rfl, rfl, rfl, trivial⟩ ⟨rfl, trivial⟩ rfl rfl ?_
                exact ⟨(l12 ++ [x16]), H, ⟨rfl, rfl, rfl, rfl, rfl, trivial⟩, ⟨rfl, trivial⟩⟩
          · rintro out26 H
            replace H : message_NormalPath_J3 r10 k13 out26 = some q14 := H
            unfold message_NormalPath_J3 at H
            refine awp_seq ?_
            refine awp_plain hN rfl ?_
            refine seq_run0 (stp_move (.dat _) rfl) ?_
            refine seq_run0 (stp_move (.dat _) rfl) ?_
            refine seq_run0 (t_len tyU43 rfl) ?_
            refine seq_run0 (stp_wrap _ rfl rfl (.inr (.inl ⟨rfl, rfl⟩))) ?_
            refine seq_run0 (stp_eql rfl rfl) ?_
            refine awp_cond _ rfl (fun h27 => ?_) (fun h27 => ?_)
            · replace H := ift h27 H
              refine awp_plain hN rfl ?_
              refine seq_run0 (stp_move (.row _ _) rfl) ?_
              refine seq_run0 (stp_dat (u' := vlst (List.map C_string [[]])) (stp_lit [[_]] tyL43 ⟨rfl, .inl ⟨_, rfl, rfl, rfl⟩, rfl, trivial⟩ rfl rfl) rfl) ?_
              obtain ⟨h28, H⟩ := gif H
              refine seq_run2 (t_app tyL43 (fun _ => rfl) rfl rfl rfl ⟨by simp, by simpa using h28⟩ rfl) rfl ?_
              refine seq_run0 (stp_assign (.row _ _) rfl) ?_
              refine seq_end ?_
              show Cv _ _ _ _
              refine cv_ren (rn [(3, 4)]) [(6, .row 3 ((out26 ++ ([[]])).length)), (7, .dat (vlst (List.map C_string r10))), (25, .dat (vlst (List.map C_string r10))), (26, .dat (vint (r10.length : Int))), (27, .dat (vint (k13 : Int)))] [(3, .row 9 1 (List.map C_string (out26 ++ ([[]]))))] ⟨rfl, rfl, rfl, rfl, rfl, trivial⟩ ⟨rfl, trivial⟩ rfl rfl ?_
              exact ⟨(out26 ++ ([[]])), H, ⟨rfl, rfl, rfl, rfl, rfl, trivial⟩, ⟨rfl, trivial⟩⟩
            · replace H := iff_ h27 H
              refine awp_skip ?_
              show Cv _ _ _ _
              refine cv_ren (rn [(3, 4)]) [(6, .row 3 out26.length), (7, .dat (vlst (List.map C_string r10))), (25, .dat (vlst (List.map C_string r10))), (26, .dat (vint (r10.length : Int))), (27, .dat (vint (k13 : Int)))] [(3, .row 9 1 (List.map C_string out26))] ⟨rfl, rfl, rfl, rfl, rfl, trivial⟩ ⟨rfl, trivial⟩ rfl rfl ?_
              exact ⟨out26, H, ⟨rfl, rfl, rfl, rfl, rfl, trivial⟩, ⟨rfl, trivial⟩⟩
        · rintro out29 H
          replace H : message_NormalPath_J2 out29 = some q14 := H
          unfold message_NormalPath_J2 at H
          refine awp_plain hN rfl ?_
          refine seq_run0 (stp_add rfl rfl (by omega)) ?_
          refine seq_run0 (stp_move (.dat _) rfl) ?_
          refine seq_end ?_
          show Cv _ _ _ _
          refine cv_ren (rn [(4, 1)]) [(6, .row 4 out29.length), (7, .dat (vlst (List.map C_string r10))), (25, .dat (vlst (List.map C_string r10))), (26, .dat (vint (r10.length : Int))), (27, .dat (vint ((k13 : Int) + 1)))] [(4, .row 9 1 (List.map C_string out29))] ⟨rfl, rfl, rfl, rfl, rfl, trivial⟩ ⟨rfl, trivial⟩ rfl rfl ?_
          exact ⟨_, backl H, ⟨rfl, rfl, rfl, rfl, rfl, trivial⟩, ⟨rfl, trivial⟩⟩
theorem k_gatelaw2_spoken  (r : (Bool)) (H : m_gatelaw2_spoken  = some r) : Fn Tryz.prog 15 [] (resOf [vbool r]) := by
  refine ⟨by kernel_rfl, pure_of (us := [vbool r]) Tryz.func15 rfl rfl rfl rfl fun X hN => ?_⟩
  unfold m_gatelaw2_spoken at H
  refine awp_seq ?_
  refine awp_plain hN rfl ?_
  refine seq_run0 (stp_assign (.dat _) rfl) ?_
  refine awp_seq ?_
  refine awp_plain hN rfl ?_
  obtain ⟨r1, h2, H⟩ := bnd H
  refine seq_run0 (stp_call (k_message_NormalPath [47, 97, 47, 46, 46, 47, 98] r1 h2) ⟨.inl rfl, trivial⟩) ?_
  refine seq_run0 (stp_move (.dat _) rfl) ?_
  refine seq_run0 (stp_ext rfl rfl) ?_
  refine seq_run0 (stp_ext rfl rfl) ?_
  refine seq_run0 (stp_assign (.dat _) rfl) ?_
  refine seq_run0 (stp_assign (.dat _) rfl) ?_
  refine awp_seq ?_
  refine awp_plain hN rfl ?_
  refine seq_run0 (stp_move (.dat _) rfl) ?_
  refine seq_run0 (stp_eql rfl rfl) ?_
  refine seq_run0 (stp_move (.dat _) rfl) ?_
  refine seq_aT rfl rfl (fun hc => stp_move (.dat _) rfl) ?_
  refine seq_aT rfl rfl (fun hc => stp_seql (cnd (c := (decide (r1.2 = 0))) hc) rfl) ?_
  refine seq_run0 (stp_pick_and rfl (fun hb => (cnd (c := (decide (r1.2 = 0))) hb)) rfl) ?_
  refine seq_run0 (stp_assign (.dat _) rfl) ?_
  refine awp_ret ?_
  cases H
  exact ⟨trivial, .inl rfl, trivial⟩
theorem k_gatelaw2_QueriesRead (v1 : (List Int)) (r : (Bool)) (H : m_gatelaw2_QueriesRead v1 = some r) : Fn Tryz.prog 3 [vlst (List.map C_int v1)] (resOf [vbool r]) := by
  refine ⟨by kernel_rfl, pure_of (us := [vbool r]) Tryz.func3 rfl rfl rfl rfl fun X hN => ?_⟩
  unfold m_gatelaw2_QueriesRead at H
  refine awp_seq ?_
  refine awp_plain hN rfl ?_
  refine seq_run0 (stp_assign (.dat _) rfl) ?_
  refine awp_seq ?_
  refine awp_plain hN rfl ?_
  refine seq_run0 (stp_move (.dat _) rfl) ?_
  refine seq_run0 (stp_dat (u' := vagg (C_gatemake_Stream (S_gatemake_Stream.mk v1 0))) (stp_build [(0, [vlst (List.map C_int v1)])] tyZ25 tyP25 rfl ⟨rfl, .inl ⟨_, rfl, rfl, rfl⟩, rfl, trivial⟩) rfl) ?_
  refine seq_run2 (stp_boxA 1 rfl) rfl ?_
  refine seq_run0 (stp_assign (.ptr _ _) rfl) ?_
  refine awp_seq ?_
  refine awp_plain hN rfl ?_
  refine seq_run0 (stp_move (.ptr _ _) rfl) ?_
  obtain ⟨r2, h3, H⟩ := bnd H
  refine seq_run2 (stp_imp (k_gatemake_Stream_QueryName (S_gatemake_Stream.mk v1 0) r2 h3) rfl trivial rfl) rfl ?_
  refine seq_run0 (stp_assign (.dat _) rfl) ?_
  refine awp_seq ?_
  refine awp_plain hN rfl ?_
  refine seq_run0 (stp_assign (.dat _) rfl) ?_
  refine awp_seq ?_
  refine awp_seq ?_
  refine awp_plain hN rfl ?_
  refine seq_run0 (stp_move (.ptr _ _) rfl) ?_
  obtain ⟨r4, h5, H⟩ := bnd H
  refine seq_run2 (stp_imp (k_gatemake_Stream_Range r2.2 0 4 r4 h5) rfl ⟨.inl rfl, .inl rfl, trivial⟩ rfl) rfl ?_
  refine seq_run0 (stp_move (.dat _) rfl) ?_
  refine awp_block ?_
  refine awp_nilrow 5 2 31 2 rfl rfl rfl ?_
  obtain ⟨h11, H⟩ := gif H
  refine awp_rng (fun (k9 : Nat) (s : (List Int) × Int × (List S_api_Pair)) => [(3, .ptr 1 0), (4, .dat (vstr r2.1)), (5, .row 2 s.2.2.length), (20, .dat (vint r4.1)), (21, .dat (vint (k9 : Int)))]) (fun (k9 : Nat) (s : (List Int) × Int × (List S_api_Pair)) => [(1, .box none 25 [.dat (vlst (List.map C_int s.1)), .dat (vint s.2.1)]), (2, .row 31 2 (List.map C_api_Pair s.2.2))]) (r4.2.L, r4.2.at_, []) H ⟨rfl, rfl, congrArg (Slot.row 2) (by simp), rfl, rfl, trivial⟩ ⟨rfl, rfl, trivial⟩ (fun _ _ => rfl) ?_ ?_
  · rintro ⟨c6, c7, l8⟩ H
    replace H : gatelaw2_QueriesRead_E1 r2 c6 c7 l8 = some r := H
    unfold gatelaw2_QueriesRead_E1 at H
    refine awp_seq ?_
    refine awp_plain hN rfl ?_
    refine seq_run0 (stp_lss rfl rfl) ?_
    refine awp_seq ?_
    refine awp_cond _ rfl (fun h => (lt_tI h).elim) (fun h => ?_)
    refine awp_exit ?_
    refine awp_joinE (ι := (List S_api_Pair)) (fun i => [(4, .dat (vstr r2.1)), (5, .row 2 i.length)]) (fun i => [(2, .row 31 2 (List.map C_api_Pair i))]) (fun i => gatelaw2_QueriesRead_J2 r2 i = some r) (fun i => rfl) ?_ ?_
    · skip
      refine awp_seq ?_
      refine awp_plain hN rfl ?_
      refine seq_run0 (stp_move (.ptr _ _) rfl) ?_
      obtain ⟨r12, h13, H⟩ := bnd H
      refine seq_run2 (stp_imp (k_gatemake_Stream_Flip (S_gatemake_Stream.mk c6 c7) 12 r12 h13) rfl ⟨.inl rfl, trivial⟩ rfl) rfl ?_
      refine awp_cond _ rfl (fun h14 => ?_) (fun h14 => ?_)
      · replace H := ift h14 H
        refine awp_plain hN rfl ?_
        refine seq_run0 (stp_move (.row _ _) rfl) ?_
        refine seq_run0 (stp_dat (u' := vagg (C_api_Pair (S_api_Pair.mk [] []))) (stp_build [] tyZ31 tyP31 rfl trivial) rfl) ?_
        refine seq_run0 (stp_dat (u' := vlst (List.map C_api_Pair [(S_api_Pair.mk [] [])])) (stp_lit [_] tyL27 ⟨rfl, .inr rfl, rfl, trivial⟩ rfl rfl) rfl) ?_
        obtain ⟨h15, H⟩ := gif H
        refine seq_run2 (t_app tyL27 (fun _ => rfl) rfl rfl rfl ⟨by simp, by simpa using h15⟩ rfl) rfl ?_
        refine seq_run0 (stp_assign (.row _ _) rfl) ?_
        exact ⟨(l8 ++ ([(S_api_Pair.mk [] [])])), H, ⟨rfl, rfl, trivial⟩, ⟨rfl, trivial⟩⟩
      · replace H := iff_ h14 H
        refine awp_skip ?_
        exact ⟨l8, H, ⟨rfl, rfl, trivial⟩, ⟨rfl, trivial⟩⟩
    · rintro v16 H
      replace H : gatelaw2_QueriesRead_J2 r2 v16 = some r := H
      unfold gatelaw2_QueriesRead_J2 at H
      refine awp_seq ?_
      refine awp_plain hN rfl ?_
      refine seq_run0 (stp_move (.dat _) rfl) ?_
      obtain ⟨r17, h18, H⟩ := bnd H
      refine seq_run0 (stp_call (k_message_ParseQuery r2.1 r17 h18) ⟨.inl rfl, trivial⟩) ?_
      refine seq_run0 (stp_move (.dat _) rfl) ?_
      refine seq_run0 (stp_ext rfl rfl) ?_
      refine seq_run0 (stp_ext rfl rfl) ?_
      refine seq_run0 (stp_assign (.dat _) rfl) ?_
      refine seq_run0 (stp_assign (.dat _) rfl) ?_
      refine awp_seq ?_
      refine awp_plain hN rfl ?_
      refine seq_run0 (stp_move (.dat _) rfl) ?_
      obtain ⟨r19, h20, H⟩ := bnd H
      refine seq_run0 (stp_call (k_gateref2_QueryOf r2.1 r19 h20) ⟨.inl rfl, trivial⟩) ?_
      refine seq_run0 (stp_move (.dat _) rfl) ?_
      refine seq_run0 (stp_ext rfl rfl) ?_
      refine seq_run0 (stp_ext rfl rfl) ?_
      refine seq_run0 (stp_assign (.dat _) rfl) ?_
      refine seq_run0 (stp_assign (.dat _) rfl) ?_
      refine awp_seq ?_
      refine t_freeze 5 2 rfl rfl rfl ?_
      refine awp_plain hN rfl ?_
      refine seq_run0 (stp_move (.dat _) rfl) ?_
      obtain ⟨r21, h22, H⟩ := bnd H
      refine seq_run0 (stp_call (k_message_QueryText v16 r21 h22) ⟨.inl rfl, trivial⟩) ?_
      refine seq_run0 (stp_move (.dat _) rfl) ?_
      refine seq_run0 (stp_ext rfl rfl) ?_
      refine seq_run0 (stp_ext rfl rfl) ?_
      refine seq_run0 (stp_assign (.dat _) rfl) ?_
      refine seq_run0 (stp_assign (.dat _) rfl) ?_
      refine awp_seq ?_
      refine awp_plain hN rfl ?_
      refine seq_run0 (stp_move (.dat _) rfl) ?_
      obtain ⟨r23, h24, H⟩ := bnd H
      refine seq_run0 (stp_call (k_gateref2_QueryFrom v16 r23 h24) ⟨.inl rfl, trivial⟩) ?_
      refine seq_run0 (stp_move (.dat _) rfl) ?_
      refine seq_run0 (stp_ext rfl rfl) ?_
      refine seq_run0 (stp_ext rfl rfl) ?_
      refine seq_run0 (stp_assign (.dat _) rfl) ?_
      refine seq_run0 (stp_assign (.dat _) rfl) ?_
      refine awp_joinE (ι := Bool) (fun i => [(2, .dat (vbool i))]) (fun i => []) (fun i => gatelaw2_QueriesRead_J3 i = some r) (fun i => rfl) ?_ ?_
      · skip
        refine awp_plain hN rfl ?_
        refine seq_run0 (stp_move (.dat _) rfl) ?_
        refine seq_run0 (stp_move (.dat _) rfl) ?_
        obtain ⟨r25, h26, H⟩ := bnd H
        refine seq_run0 (stp_call (k_slices_Equal_L_api_Pair_api_Pair_ r17.1 r19.1 r25 h26) ⟨.inl rfl, .inl rfl, trivial⟩) ?_
        refine seq_run0 (stp_move (.dat _) rfl) ?_
        refine seq_split (j := 3) rfl rfl (fun h27 => ?_) (fun h27 => ?_) rfl
        · have h28 := un1 h27
          replace H := ift h28 H
          refine seq_g0 rfl rfl h27 (stp_move (.dat _) rfl) ?_
          refine seq_g0 rfl rfl h27 (stp_move (.dat _) rfl) ?_
          refine seq_g0 rfl rfl h27 (stp_eql rfl rfl) ?_
          refine seq_run0 (stp_pick_t rfl (bTT h28) rfl) ?_
          refine seq_run0 (stp_move (.dat _) rfl) ?_
          refine seq_split (j := 8) rfl rfl (fun h29 => ?_) (fun h29 => ?_) rfl
          · have h30 := un1 h29
            replace H := ift h30 H
            refine seq_g0 rfl rfl h29 (stp_move (.dat _) rfl) ?_
            refine seq_g0 rfl rfl h29 (stp_move (.dat _) rfl) ?_
            refine seq_g0 rfl rfl h29 (stp_seql rfl rfl) ?_
            refine seq_run0 (stp_pick_t rfl (bTT h30) rfl) ?_
            refine seq_run0 (stp_move (.dat _) rfl) ?_
            refine seq_split (j := 13) rfl rfl (fun h31 => ?_) (fun h31 => ?_) rfl
            · have h32 := un1 h31
              replace H := ift h32 H
              refine seq_g0 rfl rfl h31 (stp_move (.dat _) rfl) ?_
              refine seq_g0 rfl rfl h31 (stp_move (.dat _) rfl) ?_
              refine seq_g0 rfl rfl h31 (stp_eql rfl rfl) ?_
              refine seq_run0 (stp_pick_t rfl (bTT h32) rfl) ?_
              refine seq_run0 (stp_move (.dat _) rfl) ?_
              refine seq_split (j := 18) rfl rfl (fun h33 => ?_) (fun h33 => ?_) rfl
              · have h34 := un1 h33
                replace H := ift h34 H
                obtain ⟨r35, h36, H⟩ := bnd H
                refine seq_g0 rfl rfl h33 (stp_call (k_gatelaw2_spoken  r35 h36) trivial) ?_
                refine seq_run0 (stp_pick_t rfl (bTT h34) rfl) ?_
                refine seq_run0 (stp_assign (.dat _) rfl) ?_
                exact ⟨r35, H, ⟨rfl, trivial⟩, trivial⟩
              · have h37 := un2 h33
                replace H := iff_ h37 H
                refine seq_skip rfl rfl h33 ?_
                refine seq_run0 (stp_pick_f rfl (bFF h37) rfl) ?_
                refine seq_run0 (stp_assign (.dat _) rfl) ?_
                exact ⟨false, H, ⟨rfl, trivial⟩, trivial⟩
            · have h38 := un2 h31
              replace H := iff_ h38 H
              refine seq_skip rfl rfl h31 ?_
              refine seq_skip rfl rfl h31 ?_
              refine seq_skip rfl rfl h31 ?_
              refine seq_run0 (stp_pick_f rfl (bFF h38) rfl) ?_
              refine seq_run0 (stp_move (.dat _) rfl) ?_
              refine seq_skip rfl rfl rfl ?_
              refine seq_run0 (stp_pick_f rfl rfl rfl) ?_
              refine seq_run0 (stp_assign (.dat _) rfl) ?_
              exact ⟨false, H, ⟨rfl, trivial⟩, trivial⟩
          · have h39 := un2 h29
            replace H := iff_ h39 H
            refine seq_skip rfl rfl h29 ?_
            refine seq_skip rfl rfl h29 ?_
            refine seq_skip rfl rfl h29 ?_
            refine seq_run0 (stp_pick_f rfl (bFF h39) rfl) ?_
            refine seq_run0 (stp_move (.dat _) rfl) ?_
            refine seq_skip rfl rfl rfl ?_
            refine seq_skip rfl rfl rfl ?_
            refine seq_skip rfl rfl rfl ?_
            refine seq_run0 (stp_pick_f rfl rfl rfl) ?_
            refine seq_run0 (stp_move (.dat _) rfl) ?_
            refine seq_skip rfl rfl rfl ?_
            refine seq_run0 (stp_pick_f rfl rfl rfl) ?_
            refine seq_run0 (stp_assign (.dat _) rfl) ?_
            exact ⟨false, H, ⟨rfl, trivial⟩, trivial⟩
        · have h40 := un2 h27
          replace H := iff_ h40 H
          refine seq_skip rfl rfl h27 ?_
          refine seq_skip rfl rfl h27 ?_
          refine seq_skip rfl rfl h27 ?_
          refine seq_run0 (stp_pick_f rfl (bFF h40) rfl) ?_
          refine seq_run0 (stp_move (.dat _) rfl) ?_
          refine seq_skip rfl rfl rfl ?_
          refine seq_skip rfl rfl rfl ?_
          refine seq_skip rfl rfl rfl ?_
          refine seq_run0 (stp_pick_f rfl rfl rfl) ?_
          refine seq_run0 (stp_move (.dat _) rfl) ?_
          refine seq_skip rfl rfl rfl ?_
          refine seq_skip rfl rfl rfl ?_
          refine seq_skip rfl rfl rfl ?_
          refine seq_run0 (stp_pick_f rfl rfl rfl) ?_
          refine seq_run0 (stp_move (.dat _) rfl) ?_
          refine seq_skip rfl rfl rfl ?_
          refine seq_run0 (stp_pick_f rfl rfl rfl) ?_
          refine seq_run0 (stp_assign (.dat _) rfl) ?_
          exact ⟨false, H, ⟨rfl, trivial⟩, trivial⟩
      · rintro v41 H
        replace H : gatelaw2_QueriesRead_J3 v41 = some r := H
        unfold gatelaw2_QueriesRead_J3 at H
        refine awp_ret ?_
        cases H
        exact ⟨trivial, .inl rfl, trivial⟩
  · rintro k9 ⟨c6, c7, l8⟩ q10 h42 H hq10
    replace H : gatelaw2_QueriesRead_L1 k9 c6 c7 l8 = some q10 := H
    unfold gatelaw2_QueriesRead_L1 at H
    refine awp_seq ?_
    refine awp_plain hN rfl ?_
    refine seq_run0 (stp_lss rfl rfl) ?_
    refine awp_seq ?_
    refine awp_cond _ rfl (fun h => ?_) (fun h => (lt_fI h42 h).elim)
    refine awp_skip ?_
    refine awp_seq ?_
    refine awp_block ?_
    refine awp_plain hN rfl ?_
    refine seq_run0 (stp_move (.row _ _) rfl) ?_
    refine seq_run0 (stp_move (.ptr _ _) rfl) ?_
    refine seq_run0 (stp_dat (u' := vlst (List.map C_string [[97], [98], [97, 32, 98], [120, 38, 121], [195, 169]])) (stp_lit [[_], [_], [_], [_], [_]] tyL43 ⟨rfl, .inl ⟨_, rfl, rfl, rfl⟩, rfl, rfl, .inl ⟨_, rfl, rfl, rfl⟩, rfl, rfl, .inl ⟨_, rfl, rfl, rfl⟩, rfl, rfl, .inl ⟨_, rfl, rfl, rfl⟩, rfl, rfl, .inl ⟨_, rfl, rfl, rfl⟩, rfl, trivial⟩ rfl rfl) rfl) ?_
    obtain ⟨r43, h44, H⟩ := bnd H
    refine seq_run2 (stp_imp (k_gatemake_Stream_Some (S_gatemake_Stream.mk c6 c7) ([[97], [98], [97, 32, 98], [120, 38, 121], [195, 169]]) r43 h44) rfl ⟨.inl rfl, trivial⟩ rfl) rfl ?_
    refine seq_run0 (stp_move (.ptr _ _) rfl) ?_
    refine seq_run0 (stp_dat (u' := vlst (List.map C_string [[], [49], [61], [43], [0]])) (stp_lit [[_], [_], [_], [_], [_]] tyL43 ⟨rfl, .inl ⟨_, rfl, rfl, rfl⟩, rfl, rfl, .inl ⟨_, rfl, rfl, rfl⟩, rfl, rfl, .inl ⟨_, rfl, rfl, rfl⟩, rfl, rfl, .inl ⟨_, rfl, rfl, rfl⟩, rfl, rfl, .inl ⟨_, rfl, rfl, rfl⟩, rfl, trivial⟩ rfl rfl) rfl) ?_
    obtain ⟨r45, h46, H⟩ := bnd H
    refine seq_run2 (stp_imp (k_gatemake_Stream_Some r43.2 ([[], [49], [61], [43], [0]]) r45 h46) rfl ⟨.inl rfl, trivial⟩ rfl) rfl ?_
    refine seq_run0 (stp_dat (u' := vagg (C_api_Pair (S_api_Pair.mk r43.1 r45.1))) (stp_build [(0, [vstr r43.1]), (1, [vstr r45.1])] tyZ31 tyP31 rfl ⟨rfl, .inl ⟨_, rfl, rfl, rfl⟩, rfl, rfl, .inl ⟨_, rfl, rfl, rfl⟩, rfl, trivial⟩) rfl) ?_
    refine seq_run0 (stp_dat (u' := vlst (List.map C_api_Pair [(S_api_Pair.mk r43.1 r45.1)])) (stp_lit [_] tyL27 ⟨rfl, .inr rfl, rfl, trivial⟩ rfl rfl) rfl) ?_
    obtain ⟨h47, H⟩ := gif H
    refine seq_run2 (t_app tyL27 (fun _ => rfl) rfl rfl rfl ⟨by simp, by simpa using h47⟩ rfl) rfl ?_
    refine seq_run0 (stp_assign (.row _ _) rfl) ?_
    refine awp_plain hN rfl ?_
    refine seq_run0 (stp_add rfl rfl (by omega)) ?_
    refine seq_run0 (stp_move (.dat _) rfl) ?_
    exact ⟨_, backl H, ⟨rfl, rfl, rfl, rfl, rfl, trivial⟩, ⟨rfl, rfl, trivial⟩⟩
end Go.Proofs.YtmhghppkbppbjaaGreatDoor
