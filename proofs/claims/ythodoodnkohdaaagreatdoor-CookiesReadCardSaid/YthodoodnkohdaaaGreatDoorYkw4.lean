/- Walks along the models. Printed by a program. -/
import Derived.Test.YthodoodnkohdaaaGreatDoorYkw3
namespace Go.Proofs.YthodoodnkohdaaaGreatDoor
open Go.RowKit
set_option linter.unusedVariables false
set_option maxRecDepth 20000
theorem k_gateref2_Values (l1 : (List S_api_Header)) (name2 : Bs) (r : ((List Bs))) (H : m_gateref2_Values l1 name2 = some r) : Fn Tryz.prog 36 [vlst (List.map C_api_Header l1), vstr name2] (resOf [vlst (List.map C_string r)]) := by
  refine ⟨by kernel_rfl, pure_of (us := [vlst (List.map C_string r)]) Tryz.func36 rfl rfl rfl rfl fun X hN => ?_⟩
  unfold m_gateref2_Values at H
  refine awp_seq ?_
  refine awp_plain hN rfl ?_
  refine seq_run0 (stp_assign (.dat _) rfl) ?_
  refine awp_seq ?_
  refine awp_plain hN rfl ?_
  refine seq_run0 (stp_assign (.dat _) rfl) ?_
  refine awp_seq ?_
  refine awp_seq ?_
  refine awp_plain hN rfl ?_
  refine seq_run0 (stp_move (.dat _) rfl) ?_
  refine seq_run0 (t_len tyU26 rfl) ?_
  refine seq_run0 (stp_move (.dat _) rfl) ?_
  refine awp_block ?_
  refine awp_nilrow 5 1 9 1 rfl rfl rfl ?_
  obtain ⟨h6, H⟩ := gif H
  refine awp_forL (fun (k4 : Nat) (s : (List Bs)) => [(1, .dat (vstr name2)), (5, .row 1 s.length), (8, .dat (vlst (List.map C_api_Header l1))), (9, .dat (vint (l1.length : Int))), (10, .dat (vint (k4 : Int)))]) (fun (k4 : Nat) (s : (List Bs)) => [(1, .row 9 1 (List.map C_string s))]) [] H ⟨rfl, congrArg (Slot.row 1) (by simp), rfl, rfl, rfl, trivial⟩ ⟨rfl, trivial⟩ (fun _ _ => rfl) ?_ ?_
  · rintro l3 H
    replace H : gateref2_Values_E1 l3 = some r := H
    unfold gateref2_Values_E1 at H
    refine awp_seq ?_
    refine awp_plain hN rfl ?_
    refine seq_run0 (stp_lss rfl rfl) ?_
    refine awp_seq ?_
    refine awp_cond _ rfl (fun h => (lt_t h).elim) (fun h => ?_)
    refine awp_exit ?_
    refine awp_seq ?_
    refine awp_plain hN rfl ?_
    refine seq_run0 (stp_move (.row _ _) rfl) ?_
    refine seq_run0 (stp_assign (.row _ _) rfl) ?_
    refine awp_ret ?_
    cases H
    exact ⟨trivial, t_slotv rfl rfl, trivial⟩
  · rintro k4 x7 l3 q5 h8 h9 H hq5
    replace H : gateref2_Values_L1 name2 k4 x7 l3 = some q5 := H
    unfold gateref2_Values_L1 at H
    refine awp_seq ?_
    refine awp_plain hN rfl ?_
    refine seq_run0 (stp_lss rfl rfl) ?_
    refine awp_seq ?_
    refine awp_cond _ rfl (fun h => ?_) (fun h => (lt_f h8 h).elim)
    refine awp_skip ?_
    refine awp_joinE (ι := (List Bs)) (fun i => [(1, .dat (vstr name2)), (5, .row 1 i.length), (8, .dat (vlst (List.map C_api_Header l1))), (9, .dat (vint (l1.length : Int))), (10, .dat (vint (k4 : Int)))]) (fun i => [(1, .row 9 1 (List.map C_string i))]) (fun i => gateref2_Values_J2 i = some q5) (fun i => rfl) ?_ ?_
    · skip
      refine awp_block ?_
      refine awp_seq ?_
      refine awp_plain hN rfl ?_
      refine seq_run0 (t_idx tyE26 (fun _ => rfl) rfl rfl h9) ?_
      refine seq_run0 (stp_loadEA tyS49 rfl (map_at h9) rfl) ?_
      refine seq_run2 (stp_alloc 2 tyZ49 rfl) rfl ?_
      refine seq_run2 (stp_storeW tyS49 rfl rfl rfl rfl) rfl ?_
      refine awp_seq ?_
      refine awp_plain hN rfl ?_
      refine seq_run0 (stp_fldP tyF49_0 rfl) ?_
      refine seq_run1 (stp_load1 tyS9 rfl rfl) rfl ?_
      refine seq_run0 (stp_move (.dat _) rfl) ?_
      obtain ⟨r10, h11, H⟩ := bnd H
      refine seq_run0 (stp_call (k_gateref2_alike x7.Name name2 r10 h11) ⟨.inl rfl, .inl rfl, trivial⟩) ?_
      refine awp_cond _ rfl (fun h12 => ?_) (fun h12 => ?_)
      · replace H := ift h12 H
        refine awp_plain hN rfl ?_
        refine seq_run0 (stp_move (.row _ _) rfl) ?_
        refine seq_run0 (stp_fldP tyF49_1 rfl) ?_
        refine seq_run1 (stp_load1 tyS9 rfl rfl) rfl ?_
        refine seq_run0 (stp_dat (u' := vlst (List.map C_string [x7.Value])) (stp_lit [[_]] tyL60 ⟨rfl, .inl ⟨_, rfl, rfl, rfl⟩, rfl, trivial⟩ rfl rfl) rfl) ?_
        obtain ⟨h13, H⟩ := gif H
        refine seq_run2 (t_app tyL60 (fun _ => rfl) rfl rfl rfl ⟨by simp, by first | (simp; done) | simpa using h13⟩ rfl) rfl ?_
        refine seq_run0 (stp_assign (.row _ _) rfl) ?_
        exact ⟨(l3 ++ [x7.Value]), H, ⟨rfl, rfl, rfl, rfl, rfl, trivial⟩, ⟨rfl, trivial⟩⟩
      · replace H := iff_ h12 H
        refine awp_skip ?_
        exact ⟨l3, H, ⟨rfl, rfl, rfl, rfl, rfl, trivial⟩, ⟨rfl, trivial⟩⟩
    · rintro out14 H
      replace H : gateref2_Values_J2 out14 = some q5 := H
      unfold gateref2_Values_J2 at H
      refine awp_plain hN rfl ?_
      refine seq_run0 (stp_add rfl rfl (by omega)) ?_
      refine seq_run0 (stp_move (.dat _) rfl) ?_
      exact ⟨_, backl H, ⟨rfl, rfl, rfl, rfl, rfl, trivial⟩, ⟨rfl, trivial⟩⟩
theorem k_gateref2_CookiesOf (v1 : (List S_api_Header)) (r : ((List S_api_Pair) × Int)) (H : m_gateref2_CookiesOf v1 = some r) : Fn Tryz.prog 8 [vlst (List.map C_api_Header v1)] (resOf [vlst (List.map C_api_Pair r.1), vint r.2]) := by
  refine ⟨by kernel_rfl, pure_of (us := [vlst (List.map C_api_Pair r.1), vint r.2]) Tryz.func8 rfl rfl rfl rfl fun X hN => ?_⟩
  unfold m_gateref2_CookiesOf at H
  refine awp_seq ?_
  refine awp_plain hN rfl ?_
  refine seq_run0 (stp_assign (.dat _) rfl) ?_
  refine seq_run0 (stp_assign (.dat _) rfl) ?_
  refine awp_seq ?_
  refine awp_seq ?_
  refine awp_plain hN rfl ?_
  refine seq_run0 (stp_move (.dat _) rfl) ?_
  obtain ⟨r2, h3, H⟩ := bnd H
  refine seq_run0 (stp_call (k_gateref2_HeadersFault v1 r2 h3) ⟨.inl rfl, trivial⟩) ?_
  refine seq_run0 (stp_assign (.dat _) rfl) ?_
  refine awp_seq ?_
  refine awp_plain hN rfl ?_
  refine seq_run0 (stp_move (.dat _) rfl) ?_
  refine seq_run0 (stp_neq rfl rfl) ?_
  refine awp_cond _ rfl (fun h4 => ?_) (fun h4 => ?_)
  · replace H := ift h4 H
    refine awp_seq ?_
    refine awp_plain hN rfl ?_
    refine seq_run0 (stp_move (.dat _) rfl) ?_
    refine seq_run0 (stp_assign (.dat _) rfl) ?_
    refine seq_run0 (stp_assign (.dat _) rfl) ?_
    refine awp_ret ?_
    cases H
    exact ⟨trivial, .inr ⟨rfl, rfl⟩, .inl rfl, trivial⟩
  · replace H := iff_ h4 H
    refine awp_skip ?_
    refine awp_seq ?_
    refine awp_plain hN rfl ?_
    refine seq_run0 (stp_assign (.dat _) rfl) ?_
    refine awp_seq ?_
    refine awp_seq ?_
    refine awp_plain hN rfl ?_
    refine seq_run0 (stp_move (.dat _) rfl) ?_
    obtain ⟨r5, h6, H⟩ := bnd H
    refine seq_run0 (stp_call (k_gateref2_Values v1 [99, 111, 111, 107, 105, 101] r5 h6) ⟨.inl rfl, .inl rfl, trivial⟩) ?_
    refine seq_run0 (t_len tyU60 rfl) ?_
    refine seq_run0 (stp_move (.dat _) rfl) ?_
    refine awp_block ?_
    refine awp_nilrow 5 1 44 2 rfl rfl rfl ?_
    obtain ⟨h10, H⟩ := gif H
    refine awp_forL (fun (k8 : Nat) (s : (List S_api_Pair)) => [(5, .row 1 s.length), (19, .dat (vlst (List.map C_string r5))), (20, .dat (vint (r5.length : Int))), (21, .dat (vint (k8 : Int)))]) (fun (k8 : Nat) (s : (List S_api_Pair)) => [(1, .row 44 2 (List.map C_api_Pair s))]) [] H ⟨congrArg (Slot.row 1) (by simp), rfl, rfl, rfl, trivial⟩ ⟨rfl, trivial⟩ (fun _ _ => rfl) ?_ ?_
    · rintro l7 H
      replace H : gateref2_CookiesOf_E1 l7 = some r := H
      unfold gateref2_CookiesOf_E1 at H
      refine awp_seq ?_
      refine awp_plain hN rfl ?_
      refine seq_run0 (stp_lss rfl rfl) ?_
      refine awp_seq ?_
      refine awp_cond _ rfl (fun h => (lt_t h).elim) (fun h => ?_)
      refine awp_exit ?_
      refine awp_seq ?_
      refine awp_seq ?_
      refine awp_plain hN rfl ?_
      refine seq_run0 (stp_move (.row _ _) rfl) ?_
      refine seq_run1 (t_lenR tyU32 rfl rfl) rfl ?_
      refine seq_run0 (stp_gtr rfl rfl) ?_
      refine awp_cond _ rfl (fun h12 => ?_) (fun h12 => ?_)
      · replace H := ift h12 H
        refine awp_seq ?_
        refine awp_plain hN rfl ?_
        refine seq_run0 (stp_assign (.dat _) rfl) ?_
        refine seq_run0 (stp_assign (.dat _) rfl) ?_
        refine awp_ret ?_
        cases H
        exact ⟨trivial, .inr ⟨rfl, rfl⟩, .inl rfl, trivial⟩
      · replace H := iff_ h12 H
        refine awp_skip ?_
        refine awp_seq ?_
        refine awp_plain hN rfl ?_
        refine seq_run0 (stp_move (.row _ _) rfl) ?_
        refine seq_run0 (stp_assign (.row _ _) rfl) ?_
        refine seq_run0 (stp_assign (.dat _) rfl) ?_
        refine awp_ret ?_
        cases H
        exact ⟨trivial, t_slotv rfl rfl, .inl rfl, trivial⟩
    · rintro k8 x11 l7 q9 h13 h14 H hq9
      replace H : gateref2_CookiesOf_L1 k8 x11 l7 = some q9 := H
      unfold gateref2_CookiesOf_L1 at H
      refine awp_seq ?_
      refine awp_plain hN rfl ?_
      refine seq_run0 (stp_lss rfl rfl) ?_
      refine awp_seq ?_
      refine awp_cond _ rfl (fun h => ?_) (fun h => (lt_f h13 h).elim)
      refine awp_skip ?_
      refine awp_seq ?_
      refine awp_block ?_
      refine awp_seq ?_
      refine awp_plain hN rfl ?_
      refine seq_run0 (t_idx tyE60 (fun _ => rfl) rfl rfl h14) ?_
      refine seq_run0 (stp_loadE1 tyS9 rfl (map_at h14) rfl) ?_
      refine seq_run0 (stp_assign (.dat _) rfl) ?_
      refine awp_seq ?_
      refine awp_plain hN rfl ?_
      refine seq_run0 (stp_move (.dat _) rfl) ?_
      obtain ⟨r15, h16, H⟩ := bnd H
      refine seq_run0 (stp_call (k_strings_Split x11 [59] r15 h16) ⟨.inl rfl, .inl rfl, trivial⟩) ?_
      refine seq_run0 (t_len tyU60 rfl) ?_
      refine seq_run0 (stp_move (.dat _) rfl) ?_
      refine awp_block ?_
      obtain ⟨h20, H⟩ := gif H
      refine awp_forL (fun (k18 : Nat) (s : (List S_api_Pair)) => [(5, .row 1 s.length), (19, .dat (vlst (List.map C_string r5))), (20, .dat (vint (r5.length : Int))), (21, .dat (vint (k8 : Int))), (26, .dat (vlst (List.map C_string r15))), (27, .dat (vint (r15.length : Int))), (28, .dat (vint (k18 : Int)))]) (fun (k18 : Nat) (s : (List S_api_Pair)) => [(1, .row 44 2 (List.map C_api_Pair s))]) l7 H ⟨rfl, rfl, rfl, rfl, rfl, rfl, rfl, trivial⟩ ⟨rfl, trivial⟩ (fun _ _ => rfl) ?_ ?_
      · rintro l17 H
        replace H : gateref2_CookiesOf_E2 l17 = some q9 := H
        unfold gateref2_CookiesOf_E2 at H
        refine awp_seq ?_
        refine awp_plain hN rfl ?_
        refine seq_run0 (stp_lss rfl rfl) ?_
        refine awp_seq ?_
        refine awp_cond _ rfl (fun h => (lt_t h).elim) (fun h => ?_)
        refine awp_exit ?_
        refine awp_plain hN rfl ?_
        refine seq_run0 (stp_add rfl rfl (by omega)) ?_
        refine seq_run0 (stp_move (.dat _) rfl) ?_
        exact ⟨_, backl H, ⟨rfl, rfl, rfl, rfl, trivial⟩, ⟨rfl, trivial⟩⟩
      · rintro k18 x21 l17 q19 h22 h23 H hq19
        replace H : gateref2_CookiesOf_L2 k18 x21 l17 = some q19 := H
        unfold gateref2_CookiesOf_L2 at H
        refine awp_seq ?_
        refine awp_plain hN rfl ?_
        refine seq_run0 (stp_lss rfl rfl) ?_
        refine awp_seq ?_
        refine awp_cond _ rfl (fun h => ?_) (fun h => (lt_f h22 h).elim)
        refine awp_skip ?_
        refine awp_joinE (ι := (List S_api_Pair)) (fun i => [(5, .row 1 i.length), (19, .dat (vlst (List.map C_string r5))), (20, .dat (vint (r5.length : Int))), (21, .dat (vint (k8 : Int))), (26, .dat (vlst (List.map C_string r15))), (27, .dat (vint (r15.length : Int))), (28, .dat (vint (k18 : Int)))]) (fun i => [(1, .row 44 2 (List.map C_api_Pair i))]) (fun i => gateref2_CookiesOf_J3 i = some q19) (fun i => rfl) ?_ ?_
        · skip
          refine awp_block ?_
          refine awp_seq ?_
          refine awp_plain hN rfl ?_
          refine seq_run0 (t_idx tyE60 (fun _ => rfl) rfl rfl h23) ?_
          refine seq_run0 (stp_loadE1 tyS9 rfl (map_at h23) rfl) ?_
          refine seq_run0 (stp_assign (.dat _) rfl) ?_
          refine awp_seq ?_
          refine awp_seq ?_
          refine awp_plain hN rfl ?_
          refine seq_run0 (stp_move (.dat _) rfl) ?_
          obtain ⟨r24, h25, H⟩ := bnd H
          refine seq_run0 (stp_call (k_strings_Trim x21 [32] r24 h25) ⟨.inl rfl, .inl rfl, trivial⟩) ?_
          refine seq_run0 (stp_assign (.dat _) rfl) ?_
          refine awp_seq ?_
          refine awp_plain hN rfl ?_
          refine seq_run0 (stp_move (.dat _) rfl) ?_
          refine seq_run0 (stp_seql rfl rfl) ?_
          refine awp_cond _ rfl (fun h26 => ?_) (fun h26 => ?_)
          · replace H := ift h26 H
            refine awp_exit ?_
            exact ⟨l17, H, ⟨rfl, rfl, rfl, rfl, rfl, rfl, rfl, trivial⟩, ⟨rfl, trivial⟩⟩
          · replace H := iff_ h26 H
            refine awp_skip ?_
            refine awp_seq ?_
            refine awp_plain hN rfl ?_
            refine seq_run0 (stp_move (.dat _) rfl) ?_
            obtain ⟨r27, h28, H⟩ := bnd H
            refine seq_run0 (stp_call (k_strings_Cut r24 [61] r27 h28) ⟨.inl rfl, .inl rfl, trivial⟩) ?_
            refine seq_run0 (stp_move (.dat _) rfl) ?_
            refine seq_run0 (stp_ext rfl rfl) ?_
            refine seq_run0 (stp_ext rfl rfl) ?_
            refine seq_run0 (stp_ext rfl rfl) ?_
            refine seq_run0 (stp_assign (.dat _) rfl) ?_
            refine seq_run0 (stp_assign (.dat _) rfl) ?_
            refine seq_run0 (stp_assign (.dat _) rfl) ?_
            refine awp_seq ?_
            refine awp_joinE (ι := Bool) (fun i => [(5, .row 1 l17.length), (10, .dat (vstr r27.1)), (11, .dat (vstr r27.2.1)), (19, .dat (vlst (List.map C_string r5))), (20, .dat (vint (r5.length : Int))), (21, .dat (vint (k8 : Int))), (26, .dat (vlst (List.map C_string r15))), (27, .dat (vint (r15.length : Int))), (28, .dat (vint (k18 : Int))), (53, .dat (vbool i))]) (fun i => [(1, .row 44 2 (List.map C_api_Pair l17))]) (fun i => gateref2_CookiesOf_J4 l17 r27 i = some q19) (fun i => rfl) ?_ ?_
            · skip
              refine awp_plain hN rfl ?_
              refine seq_run0 (stp_move (.dat _) rfl) ?_
              refine seq_run0 (stp_not rfl) ?_
              refine seq_run0 (stp_move (.dat _) rfl) ?_
              refine seq_split (j := 2) rfl rfl (fun h29 => ?_) (fun h29 => ?_) rfl
              · have h30 := un3 h29
                replace H := iff_ h30 H
                refine seq_g0 rfl rfl h29 (stp_move (.dat _) rfl) ?_
                obtain ⟨r31, h32, H⟩ := bnd H
                refine seq_g0 rfl rfl h29 (stp_call (k_gateref2_Token r27.1 r31 h32) ⟨.inl rfl, trivial⟩) ?_
                refine seq_g0 rfl rfl h29 (stp_not rfl) ?_
                refine seq_run0 (stp_pick_f rfl (bFF h30) rfl) ?_
                refine seq_run0 (stp_move (.dat _) rfl) ?_
                refine seq_split (j := 7) rfl rfl (fun h33 => ?_) (fun h33 => ?_) rfl
                · have h34 := un3 h33
                  replace H := iff_ h34 H
                  refine seq_g0 rfl rfl h33 (stp_move (.dat _) rfl) ?_
                  obtain ⟨r35, h36, H⟩ := bnd H
                  refine seq_g0 rfl rfl h33 (stp_call (k_gateref2_cookieValue r27.2.1 r35 h36) ⟨.inl rfl, trivial⟩) ?_
                  refine seq_g0 rfl rfl h33 (stp_not rfl) ?_
                  refine seq_run0 (stp_pick_f rfl (bFF h34) rfl) ?_
                  exact ⟨!r35, H, ⟨rfl, rfl, rfl, rfl, rfl, rfl, rfl, rfl, rfl, rfl, trivial⟩, ⟨rfl, trivial⟩⟩
                · have h37 := un4 h33
                  replace H := ift h37 H
                  refine seq_skip rfl rfl h33 ?_
                  refine seq_skip rfl rfl h33 ?_
                  refine seq_skip rfl rfl h33 ?_
                  refine seq_run0 (stp_pick_t rfl (bTT h37) rfl) ?_
                  exact ⟨true, H, ⟨rfl, rfl, rfl, rfl, rfl, rfl, rfl, rfl, rfl, rfl, trivial⟩, ⟨rfl, trivial⟩⟩
              · have h38 := un4 h29
                replace H := ift h38 H
                refine seq_skip rfl rfl h29 ?_
                refine seq_skip rfl rfl h29 ?_
                refine seq_skip rfl rfl h29 ?_
                refine seq_run0 (stp_pick_t rfl (bTT h38) rfl) ?_
                refine seq_run0 (stp_move (.dat _) rfl) ?_
                refine seq_skip rfl rfl rfl ?_
                refine seq_skip rfl rfl rfl ?_
                refine seq_skip rfl rfl rfl ?_
                refine seq_run0 (stp_pick_t rfl rfl rfl) ?_
                exact ⟨true, H, ⟨rfl, rfl, rfl, rfl, rfl, rfl, rfl, rfl, rfl, rfl, trivial⟩, ⟨rfl, trivial⟩⟩
            · rintro v39 H
              replace H : gateref2_CookiesOf_J4 l17 r27 v39 = some q19 := H
              unfold gateref2_CookiesOf_J4 at H
              refine awp_cond _ rfl (fun h40 => ?_) (fun h40 => ?_)
              · replace H := ift h40 H
                refine awp_seq ?_
                refine awp_plain hN rfl ?_
                refine seq_run0 (stp_assign (.dat _) rfl) ?_
                refine seq_run0 (stp_assign (.dat _) rfl) ?_
                refine awp_ret ?_
                replace H := retl H hq19
                replace H := retl H hq9
                cases H
                exact ⟨trivial, .inr ⟨rfl, rfl⟩, .inl rfl, trivial⟩
              · replace H := iff_ h40 H
                refine awp_skip ?_
                refine awp_plain hN rfl ?_
                refine seq_run0 (stp_move (.row _ _) rfl) ?_
                refine seq_run0 (stp_move (.dat _) rfl) ?_
                refine seq_run0 (stp_move (.dat _) rfl) ?_
                refine seq_run0 (stp_dat (u' := vagg (C_api_Pair (S_api_Pair.mk r27.1 r27.2.1))) (stp_build [(0, [vstr r27.1]), (1, [vstr r27.2.1])] tyZ44 tyP44 rfl ⟨rfl, .inl ⟨_, rfl, rfl, rfl⟩, rfl, rfl, .inl ⟨_, rfl, rfl, rfl⟩, rfl, trivial⟩) rfl) ?_
                refine seq_run0 (stp_dat (u' := vlst (List.map C_api_Pair [(S_api_Pair.mk r27.1 r27.2.1)])) (stp_lit [_] tyL32 ⟨rfl, .inr rfl, rfl, trivial⟩ rfl rfl) rfl) ?_
                obtain ⟨h41, H⟩ := gif H
                refine seq_run2 (t_app tyL32 (fun _ => rfl) rfl rfl rfl ⟨by simp, by first | (simp; done) | simpa using h41⟩ rfl) rfl ?_
                refine seq_run0 (stp_assign (.row _ _) rfl) ?_
                exact ⟨(l17 ++ [(S_api_Pair.mk r27.1 r27.2.1)]), H, ⟨rfl, rfl, rfl, rfl, rfl, rfl, rfl, trivial⟩, ⟨rfl, trivial⟩⟩
        · rintro v42 H
          replace H : gateref2_CookiesOf_J3 v42 = some q19 := H
          unfold gateref2_CookiesOf_J3 at H
          refine awp_plain hN rfl ?_
          refine seq_run0 (stp_add rfl rfl (by omega)) ?_
          refine seq_run0 (stp_move (.dat _) rfl) ?_
          exact ⟨_, backl H, ⟨rfl, rfl, rfl, rfl, rfl, rfl, rfl, trivial⟩, ⟨rfl, trivial⟩⟩
theorem k_kit_Number (s1 : Bs) (most2 : Int) (r : (Int × Bool)) (H : m_kit_Number s1 most2 = some r) : Fn Tryz.prog 49 [vstr s1, vint most2] (resOf [vint r.1, vbool r.2]) := by
  refine ⟨by kernel_rfl, pure_of (us := [vint r.1, vbool r.2]) Tryz.func49 rfl rfl rfl rfl fun X hN => ?_⟩
  unfold m_kit_Number at H
  refine awp_seq ?_
  refine awp_plain hN rfl ?_
  refine seq_run0 (stp_assign (.dat _) rfl) ?_
  refine seq_run0 (stp_assign (.dat _) rfl) ?_
  refine awp_seq ?_
  refine awp_plain hN rfl ?_
  refine seq_run0 (stp_move (.dat _) rfl) ?_
  obtain ⟨r3, h4, H⟩ := bnd H
  refine seq_run0 (stp_call (k_strings_TrimPrefix s1 [45] r3 h4) ⟨.inl rfl, .inl rfl, trivial⟩) ?_
  refine seq_run0 (stp_assign (.dat _) rfl) ?_
  refine awp_seq ?_
  refine awp_joinE (ι := Bool) (fun i => [(0, .dat (vstr s1)), (6, .dat (vstr r3)), (28, .dat (vbool i))]) (fun i => []) (fun i => kit_Number_J1 s1 r3 i = some r) (fun i => rfl) ?_ ?_
  · skip
    refine awp_plain hN rfl ?_
    refine seq_run0 (stp_move (.dat _) rfl) ?_
    refine seq_run0 (stp_seql rfl rfl) ?_
    refine seq_run0 (stp_move (.dat _) rfl) ?_
    refine seq_split (j := 2) rfl rfl (fun h5 => ?_) (fun h5 => ?_) rfl
    · have h6 := un3 h5
      replace H := iff_ h6 H
      refine seq_g0 rfl rfl h5 (stp_move (.dat _) rfl) ?_
      refine seq_g0 rfl rfl h5 (stp_len_str tyU9 rfl) ?_
      refine seq_g0 rfl rfl h5 (stp_move (.dat _) rfl) ?_
      refine seq_g0 rfl rfl h5 (stp_gtr rfl rfl) ?_
      refine seq_run0 (stp_pick_f rfl (bFF h6) rfl) ?_
      refine seq_run0 (stp_move (.dat _) rfl) ?_
      refine seq_split (j := 8) rfl rfl (fun h7 => ?_) (fun h7 => ?_) rfl
      · have h8 := un3 h7
        replace H := iff_ h8 H
        refine seq_g0 rfl rfl h7 (stp_move (.dat _) rfl) ?_
        obtain ⟨x9, h10, H⟩ := bnd H
        refine seq_g0 rfl rfl h7 (t_byte tyU9 rfl rfl h10) ?_
        refine seq_g0 rfl rfl h7 (stp_eql rfl rfl) ?_
        refine seq_g0 rfl rfl h7 (stp_move (.dat _) rfl) ?_
        refine seq_split (j := 12) rfl rfl (fun h11 => ?_) (fun h11 => ?_) rfl
        · have h12 := un1 h11
          replace H := ift h12 H
          refine seq_g0 rfl rfl h11 (stp_move (.dat _) rfl) ?_
          refine seq_g0 rfl rfl h11 (stp_sneq rfl rfl) ?_
          refine seq_g0 rfl rfl h7 (stp_pick_t rfl (bTT h12) rfl) ?_
          refine seq_run0 (stp_pick_f rfl (bFF h8) rfl) ?_
          exact ⟨decide (s1 ≠ [48]), H, ⟨rfl, rfl, rfl, trivial⟩, trivial⟩
        · have h13 := un2 h11
          replace H := iff_ h13 H
          refine seq_skip rfl rfl h11 ?_
          refine seq_skip rfl rfl h11 ?_
          refine seq_g0 rfl rfl h7 (stp_pick_f rfl (bFF h13) rfl) ?_
          refine seq_run0 (stp_pick_f rfl (bFF h8) rfl) ?_
          exact ⟨false, H, ⟨rfl, rfl, rfl, trivial⟩, trivial⟩
      · have h14 := un4 h7
        replace H := ift h14 H
        refine seq_skip rfl rfl h7 ?_
        refine seq_skip rfl rfl h7 ?_
        refine seq_skip rfl rfl h7 ?_
        refine seq_skip rfl rfl h7 ?_
        refine seq_skipU rfl rfl ?_
        refine seq_skipU rfl rfl ?_
        refine seq_skip rfl rfl h7 ?_
        refine seq_run0 (stp_pick_t rfl (bTT h14) rfl) ?_
        exact ⟨true, H, ⟨rfl, rfl, rfl, trivial⟩, trivial⟩
    · have h15 := un4 h5
      replace H := ift h15 H
      refine seq_skip rfl rfl h5 ?_
      refine seq_skip rfl rfl h5 ?_
      refine seq_skip rfl rfl h5 ?_
      refine seq_skip rfl rfl h5 ?_
      refine seq_run0 (stp_pick_t rfl (bTT h15) rfl) ?_
      refine seq_run0 (stp_move (.dat _) rfl) ?_
      refine seq_skip rfl rfl rfl ?_
      refine seq_skip rfl rfl rfl ?_
      refine seq_skip rfl rfl rfl ?_
      refine seq_skip rfl rfl rfl ?_
      refine seq_skipU rfl rfl ?_
      refine seq_skipU rfl rfl ?_
      refine seq_skip rfl rfl rfl ?_
      refine seq_run0 (stp_pick_t rfl rfl rfl) ?_
      exact ⟨true, H, ⟨rfl, rfl, rfl, trivial⟩, trivial⟩
  · rintro v16 H
    replace H : kit_Number_J1 s1 r3 v16 = some r := H
    unfold kit_Number_J1 at H
    refine awp_cond _ rfl (fun h17 => ?_) (fun h17 => ?_)
    · replace H := ift h17 H
      refine awp_seq ?_
      refine awp_plain hN rfl ?_
      refine seq_run0 (stp_assign (.dat _) rfl) ?_
      refine seq_run0 (stp_assign (.dat _) rfl) ?_
      refine awp_ret ?_
      cases H
      exact ⟨trivial, .inl rfl, .inl rfl, trivial⟩
    · replace H := iff_ h17 H
      refine awp_skip ?_
      refine awp_seq ?_
      refine awp_seq ?_
      refine awp_plain hN rfl ?_
      refine seq_run0 (stp_assign (.dat _) rfl) ?_
      refine awp_block ?_
      obtain ⟨h20, H⟩ := gif H
      refine awp_forL (fun (i18 : Nat) (s : Unit) => [(0, .dat (vstr s1)), (6, .dat (vstr r3)), (7, .dat (vint (i18 : Int)))]) (fun (i18 : Nat) (s : Unit) => []) () H ⟨rfl, rfl, rfl, trivial⟩ trivial (fun _ _ => rfl) ?_ ?_
      · rintro ⟨⟩ H
        replace H : kit_Number_E2 s1 = some r := H
        unfold kit_Number_E2 at H
        refine awp_seq ?_
        refine awp_seq ?_
        refine awp_plain hN rfl ?_
        refine seq_run0 (stp_move (.dat _) rfl) ?_
        refine seq_run0 (stp_move (.dat _) rfl) ?_
        refine seq_run0 (stp_len_str tyU9 rfl) ?_
        refine seq_run0 (stp_lss rfl rfl) ?_
        refine awp_cond _ rfl (fun h => (lt_t h).elim) (fun h => ?_)
        refine awp_exit ?_
        refine awp_seq ?_
        refine awp_plain hN rfl ?_
        refine seq_run0 (stp_move (.dat _) rfl) ?_
        obtain ⟨r22, h23, H⟩ := bnd H
        refine seq_run0 (stp_call (k_strconv_Atoi s1 r22 h23) ⟨.inl rfl, trivial⟩) ?_
        refine seq_run0 (stp_move (.dat _) rfl) ?_
        refine seq_run0 (stp_ext rfl rfl) ?_
        refine seq_run0 (stp_ext rfl rfl) ?_
        refine seq_run0 (stp_assign (.dat _) rfl) ?_
        refine seq_run0 (stp_assign (.dat _) rfl) ?_
        refine awp_seq ?_
        refine awp_draw mixed hN rfl rfl ?_
        refine seq_run0 (stp_move (.dat _) rfl) ?_
        refine seq_run0 (stp_move (.dat _) rfl) ?_
        refine seq_run0 (stp_erreql (n := r22.2) (show Tryz.prog.underlying 81 = some (.interface (Tryz.prog.methodsAt 81)) from by kernel_rfl) rfl) ?_
        refine seq_run0 (stp_assign (.dat _) rfl) ?_
        refine seq_run0 (stp_assign (.dat _) rfl) ?_
        refine ⟨rfl, ?_⟩
        refine awp_ret ?_
        cases H
        exact ⟨trivial, .inl rfl, .inl rfl, trivial⟩
      · rintro i18 x21 ⟨⟩ q19 h24 h25 H hq19
        replace H : kit_Number_L2 i18 x21 = some q19 := H
        unfold kit_Number_L2 at H
        refine awp_seq ?_
        refine awp_seq ?_
        refine awp_plain hN rfl ?_
        refine seq_run0 (stp_move (.dat _) rfl) ?_
        refine seq_run0 (stp_move (.dat _) rfl) ?_
        refine seq_run0 (stp_len_str tyU9 rfl) ?_
        refine seq_run0 (stp_lss rfl rfl) ?_
        refine awp_cond _ rfl (fun h => ?_) (fun h => (lt_f h24 h).elim)
        refine awp_skip ?_
        refine awp_seq ?_
        refine awp_block ?_
        refine awp_joinE (ι := Bool) (fun i => [(0, .dat (vstr s1)), (6, .dat (vstr r3)), (7, .dat (vint (i18 : Int))), (44, .dat (vbool i))]) (fun i => []) (fun i => kit_Number_J3 i = some q19) (fun i => rfl) ?_ ?_
        · skip
          refine awp_plain hN rfl ?_
          refine seq_run0 (stp_move (.dat _) rfl) ?_
          refine seq_run0 (stp_move (.dat _) rfl) ?_
          refine seq_run0 (t_byte tyU9 rfl rfl h25) ?_
          refine seq_run0 (stp_lss rfl rfl) ?_
          refine seq_run0 (stp_move (.dat _) rfl) ?_
          refine seq_split (j := 4) rfl rfl (fun h26 => ?_) (fun h26 => ?_) rfl
          · have h27 := un3 h26
            replace H := iff_ h27 H
            refine seq_g0 rfl rfl h26 (stp_move (.dat _) rfl) ?_
            refine seq_g0 rfl rfl h26 (stp_move (.dat _) rfl) ?_
            refine seq_g0 rfl rfl h26 (t_byte tyU9 rfl rfl h25) ?_
            refine seq_g0 rfl rfl h26 (stp_gtr rfl rfl) ?_
            refine seq_run0 (stp_pick_f rfl (bFF h27) rfl) ?_
            exact ⟨decide (57 < (x21.toNat : Int)), H, ⟨rfl, rfl, rfl, rfl, trivial⟩, trivial⟩
          · have h28 := un4 h26
            replace H := ift h28 H
            refine seq_skip rfl rfl h26 ?_
            refine seq_skip rfl rfl h26 ?_
            refine seq_skip rfl rfl h26 ?_
            refine seq_skip rfl rfl h26 ?_
            refine seq_run0 (stp_pick_t rfl (bTT h28) rfl) ?_
            exact ⟨true, H, ⟨rfl, rfl, rfl, rfl, trivial⟩, trivial⟩
        · rintro v29 H
          replace H : kit_Number_J3 v29 = some q19 := H
          unfold kit_Number_J3 at H
          refine awp_cond _ rfl (fun h30 => ?_) (fun h30 => ?_)
          · replace H := ift h30 H
            refine awp_seq ?_
            refine awp_plain hN rfl ?_
            refine seq_run0 (stp_assign (.dat _) rfl) ?_
            refine seq_run0 (stp_assign (.dat _) rfl) ?_
            refine awp_ret ?_
            replace H := retl H hq19
            cases H
            exact ⟨trivial, .inl rfl, .inl rfl, trivial⟩
          · replace H := iff_ h30 H
            refine awp_skip ?_
            refine awp_plain hN rfl ?_
            refine seq_run0 (stp_move (.dat _) rfl) ?_
            refine seq_run0 (stp_add rfl rfl (by omega)) ?_
            refine seq_run0 (stp_assign (.dat _) rfl) ?_
            exact ⟨_, backl H, ⟨rfl, rfl, rfl, trivial⟩, trivial⟩
theorem k_kit_Small (s1 : Bs) (r : (Int × Bool)) (H : m_kit_Small s1 = some r) : Fn Tryz.prog 107 [vstr s1] (resOf [vint r.1, vbool r.2]) := by
  refine ⟨by kernel_rfl, pure_of (us := [vint r.1, vbool r.2]) Tryz.func107 rfl rfl rfl rfl fun X hN => ?_⟩
  unfold m_kit_Small at H
  refine awp_seq ?_
  refine awp_plain hN rfl ?_
  refine seq_run0 (stp_assign (.dat _) rfl) ?_
  refine seq_run0 (stp_assign (.dat _) rfl) ?_
  refine awp_seq ?_
  refine awp_plain hN rfl ?_
  refine seq_run0 (stp_move (.dat _) rfl) ?_
  obtain ⟨r2, h3, H⟩ := bnd H
  refine seq_run0 (stp_call (k_kit_Number s1 9 r2 h3) ⟨.inl rfl, .inl rfl, trivial⟩) ?_
  refine seq_run0 (stp_ext rfl rfl) ?_
  refine seq_run0 (stp_ext rfl rfl) ?_
  refine seq_run0 (stp_assign (.dat _) rfl) ?_
  refine seq_run0 (stp_assign (.dat _) rfl) ?_
  refine awp_ret ?_
  cases H
  exact ⟨trivial, .inl rfl, .inl rfl, trivial⟩
theorem k_kit_Outside (n1 : Int) (low2 : Int) (high3 : Int) (r : (Bool)) (H : m_kit_Outside n1 low2 high3 = some r) : Fn Tryz.prog 43 [vint n1, vint low2, vint high3] (resOf [vbool r]) := by
  refine ⟨by kernel_rfl, pure_of (us := [vbool r]) Tryz.func43 rfl rfl rfl rfl fun X hN => ?_⟩
  unfold m_kit_Outside at H
  refine awp_seq ?_
  refine awp_plain hN rfl ?_
  refine seq_run0 (stp_assign (.dat _) rfl) ?_
  refine awp_seq ?_
  refine awp_plain hN rfl ?_
  refine seq_run0 (stp_move (.dat _) rfl) ?_
  refine seq_run0 (stp_move (.dat _) rfl) ?_
  refine seq_run0 (stp_lss rfl rfl) ?_
  refine seq_run0 (stp_move (.dat _) rfl) ?_
  refine seq_aF rfl rfl (fun hc => stp_move (.dat _) rfl) ?_
  refine seq_aF rfl rfl (fun hc => stp_move (.dat _) rfl) ?_
  refine seq_aF rfl rfl (fun hc => stp_gtr (cnd (c := (!(decide (n1 < low2)))) hc) (cnd (c := (!(decide (n1 < low2)))) hc)) ?_
  refine seq_run0 (stp_pick_or rfl rfl (fun hb => (cnd (c := (!(decide (n1 < low2)))) (notI hb)))) ?_
  refine seq_run0 (stp_assign (.dat _) rfl) ?_
  refine awp_ret ?_
  cases H
  exact ⟨trivial, .inl rfl, trivial⟩
theorem k_message_isLabel (s1 : Bs) (r : (Bool)) (H : m_message_isLabel s1 = some r) : Fn Tryz.prog 106 [vstr s1] (resOf [vbool r]) := by
  refine ⟨by kernel_rfl, pure_of (us := [vbool r]) Tryz.func106 rfl rfl rfl rfl fun X hN => ?_⟩
  unfold m_message_isLabel at H
  refine awp_seq ?_
  refine awp_plain hN rfl ?_
  refine seq_run0 (stp_assign (.dat _) rfl) ?_
  refine awp_seq ?_
  refine awp_seq ?_
  refine awp_plain hN rfl ?_
  refine seq_run0 (stp_move (.dat _) rfl) ?_
  refine seq_run0 (stp_len_str tyU9 rfl) ?_
  refine seq_run0 (stp_move (.dat _) rfl) ?_
  refine awp_block ?_
  obtain ⟨h4, H⟩ := gif H
  refine awp_forL (fun (k2 : Nat) (s : Unit) => [(0, .dat (vstr s1)), (5, .dat (vint (s1.length : Int))), (6, .dat (vint (k2 : Int)))]) (fun (k2 : Nat) (s : Unit) => []) () H ⟨rfl, rfl, rfl, trivial⟩ trivial (fun _ _ => rfl) ?_ ?_
  · rintro ⟨⟩ H
    replace H : message_isLabel_E1 s1 = some r := H
    unfold message_isLabel_E1 at H
    refine awp_seq ?_
    refine awp_plain hN rfl ?_
    refine seq_run0 (stp_lss rfl rfl) ?_
    refine awp_seq ?_
    refine awp_cond _ rfl (fun h => (lt_t h).elim) (fun h => ?_)
    refine awp_exit ?_
    refine awp_joinE (ι := Bool) (fun i => [(2, .dat (vbool i))]) (fun i => []) (fun i => message_isLabel_J2 i = some r) (fun i => rfl) ?_ ?_
    · skip
      refine awp_plain hN rfl ?_
      refine seq_run0 (stp_move (.dat _) rfl) ?_
      refine seq_run0 (stp_sneq rfl rfl) ?_
      refine seq_run0 (stp_move (.dat _) rfl) ?_
      refine seq_split (j := 2) rfl rfl (fun h6 => ?_) (fun h6 => ?_) rfl
      · have h7 := un1 h6
        replace H := ift h7 H
        refine seq_g0 rfl rfl h6 (stp_move (.dat _) rfl) ?_
        refine seq_g0 rfl rfl h6 (stp_len_str tyU9 rfl) ?_
        refine seq_g0 rfl rfl h6 (stp_leq rfl rfl) ?_
        refine seq_run0 (stp_pick_t rfl (bTT h7) rfl) ?_
        refine seq_run0 (stp_move (.dat _) rfl) ?_
        refine seq_split (j := 7) rfl rfl (fun h8 => ?_) (fun h8 => ?_) rfl
        · have h9 := un1 h8
          replace H := ift h9 H
          refine seq_g0 rfl rfl h8 (stp_move (.dat _) rfl) ?_
          obtain ⟨x10, h11, H⟩ := bnd H
          refine seq_g0 rfl rfl h8 (t_byte tyU9 rfl rfl h11) ?_
          refine seq_g0 rfl rfl h8 (stp_neq rfl rfl) ?_
          refine seq_run0 (stp_pick_t rfl (bTT h9) rfl) ?_
          refine seq_run0 (stp_move (.dat _) rfl) ?_
          refine seq_split (j := 12) rfl rfl (fun h12 => ?_) (fun h12 => ?_) rfl
          · have h13 := un1 h12
            replace H := ift h13 H
            refine seq_g0 rfl rfl h12 (stp_move (.dat _) rfl) ?_
            refine seq_g0 rfl rfl h12 (stp_move (.dat _) rfl) ?_
            refine seq_g0 rfl rfl h12 (stp_len_str tyU9 rfl) ?_
            refine seq_g0 rfl rfl h12 (stp_wrap _ rfl rfl (.inr (.inl ⟨rfl, rfl⟩))) ?_
            obtain ⟨x14, h15, H⟩ := bnd H
            refine seq_g0 rfl rfl h12 (t_byteI tyU9 rfl rfl h15) ?_
            refine seq_g0 rfl rfl h12 (stp_neq rfl rfl) ?_
            refine seq_run0 (stp_pick_t rfl (bTT h13) rfl) ?_
            refine seq_run0 (stp_assign (.dat _) rfl) ?_
            exact ⟨decide ((x14.toNat : Int) ≠ 45), H, ⟨rfl, trivial⟩, trivial⟩
          · have h16 := un2 h12
            replace H := iff_ h16 H
            refine seq_skip rfl rfl h12 ?_
            refine seq_skip rfl rfl h12 ?_
            refine seq_skip rfl rfl h12 ?_
            refine seq_skip rfl rfl h12 ?_
            refine seq_skip rfl rfl h12 ?_
            refine seq_skip rfl rfl h12 ?_
            refine seq_run0 (stp_pick_f rfl (bFF h16) rfl) ?_
            refine seq_run0 (stp_assign (.dat _) rfl) ?_
            exact ⟨false, H, ⟨rfl, trivial⟩, trivial⟩
        · have h17 := un2 h8
          replace H := iff_ h17 H
          refine seq_skip rfl rfl h8 ?_
          refine seq_skip rfl rfl h8 ?_
          refine seq_skip rfl rfl h8 ?_
          refine seq_run0 (stp_pick_f rfl (bFF h17) rfl) ?_
          refine seq_run0 (stp_move (.dat _) rfl) ?_
          refine seq_skip rfl rfl rfl ?_
          refine seq_skip rfl rfl rfl ?_
          refine seq_skip rfl rfl rfl ?_
          refine seq_skip rfl rfl rfl ?_
          refine seq_skip rfl rfl rfl ?_
          refine seq_skip rfl rfl rfl ?_
          refine seq_run0 (stp_pick_f rfl rfl rfl) ?_
          refine seq_run0 (stp_assign (.dat _) rfl) ?_
          exact ⟨false, H, ⟨rfl, trivial⟩, trivial⟩
      · have h18 := un2 h6
        replace H := iff_ h18 H
        refine seq_skip rfl rfl h6 ?_
        refine seq_skip rfl rfl h6 ?_
        refine seq_skip rfl rfl h6 ?_
        refine seq_run0 (stp_pick_f rfl (bFF h18) rfl) ?_
        refine seq_run0 (stp_move (.dat _) rfl) ?_
        refine seq_skip rfl rfl rfl ?_
        refine seq_skip rfl rfl rfl ?_
        refine seq_skip rfl rfl rfl ?_
        refine seq_run0 (stp_pick_f rfl rfl rfl) ?_
        refine seq_run0 (stp_move (.dat _) rfl) ?_
        refine seq_skip rfl rfl rfl ?_
        refine seq_skip rfl rfl rfl ?_
        refine seq_skip rfl rfl rfl ?_
        refine seq_skip rfl rfl rfl ?_
        refine seq_skip rfl rfl rfl ?_
        refine seq_skip rfl rfl rfl ?_
        refine seq_run0 (stp_pick_f rfl rfl rfl) ?_
        refine seq_run0 (stp_assign (.dat _) rfl) ?_
        exact ⟨false, H, ⟨rfl, trivial⟩, trivial⟩
    · rintro v19 H
      replace H : message_isLabel_J2 v19 = some r := H
      unfold message_isLabel_J2 at H
      refine awp_ret ?_
      cases H
      exact ⟨trivial, .inl rfl, trivial⟩
  · rintro k2 x5 ⟨⟩ q3 h20 h21 H hq3
    replace H : message_isLabel_L1 k2 x5 = some q3 := H
    unfold message_isLabel_L1 at H
    refine awp_seq ?_
    refine awp_plain hN rfl ?_
    refine seq_run0 (stp_lss rfl rfl) ?_
    refine awp_seq ?_
    refine awp_cond _ rfl (fun h => ?_) (fun h => (lt_f h20 h).elim)
    refine awp_skip ?_
    refine awp_seq ?_
    refine awp_block ?_
    refine awp_seq ?_
    refine awp_plain hN rfl ?_
    refine seq_run0 (stp_move (.dat _) rfl) ?_
    refine seq_run0 (stp_assign (.dat _) rfl) ?_
    refine awp_joinE (ι := Bool) (fun i => [(0, .dat (vstr s1)), (5, .dat (vint (s1.length : Int))), (6, .dat (vint (k2 : Int))), (26, .dat (vbool i))]) (fun i => []) (fun i => message_isLabel_J3 i = some q3) (fun i => rfl) ?_ ?_
    · skip
      refine awp_plain hN rfl ?_
      refine seq_run0 (stp_move (.dat _) rfl) ?_
      refine seq_run0 (stp_move (.dat _) rfl) ?_
      refine seq_run0 (t_byte tyU9 rfl rfl h21) ?_
      obtain ⟨r22, h23, H⟩ := bnd H
      refine seq_run0 (stp_call (k_message_isLetter (x5.toNat : Int) r22 h23) ⟨.inl rfl, trivial⟩) ?_
      refine seq_run0 (stp_not rfl) ?_
      refine seq_run0 (stp_move (.dat _) rfl) ?_
      refine seq_split (j := 5) rfl rfl (fun h24 => ?_) (fun h24 => ?_) rfl
      · have h25 := un1 h24
        replace H := ift h25 H
        refine seq_g0 rfl rfl h24 (stp_move (.dat _) rfl) ?_
        refine seq_g0 rfl rfl h24 (stp_move (.dat _) rfl) ?_
        refine seq_g0 rfl rfl h24 (t_byte tyU9 rfl rfl h21) ?_
        obtain ⟨r26, h27, H⟩ := bnd H
        refine seq_g0 rfl rfl h24 (stp_call (k_message_isDigit (x5.toNat : Int) r26 h27) ⟨.inl rfl, trivial⟩) ?_
        refine seq_g0 rfl rfl h24 (stp_not rfl) ?_
        refine seq_run0 (stp_pick_t rfl (bTT h25) rfl) ?_
        refine seq_run0 (stp_move (.dat _) rfl) ?_
        refine seq_split (j := 12) rfl rfl (fun h28 => ?_) (fun h28 => ?_) rfl
        · have h29 := un1 h28
          replace H := ift h29 H
          refine seq_g0 rfl rfl h28 (stp_move (.dat _) rfl) ?_
          refine seq_g0 rfl rfl h28 (stp_move (.dat _) rfl) ?_
          refine seq_g0 rfl rfl h28 (t_byte tyU9 rfl rfl h21) ?_
          refine seq_g0 rfl rfl h28 (stp_neq rfl rfl) ?_
          refine seq_run0 (stp_pick_t rfl (bTT h29) rfl) ?_
          exact ⟨decide ((x5.toNat : Int) ≠ 45), H, ⟨rfl, rfl, rfl, rfl, trivial⟩, trivial⟩
        · have h30 := un2 h28
          replace H := iff_ h30 H
          refine seq_skip rfl rfl h28 ?_
          refine seq_skip rfl rfl h28 ?_
          refine seq_skip rfl rfl h28 ?_
          refine seq_skip rfl rfl h28 ?_
          refine seq_run0 (stp_pick_f rfl (bFF h30) rfl) ?_
          exact ⟨false, H, ⟨rfl, rfl, rfl, rfl, trivial⟩, trivial⟩
      · have h31 := un2 h24
        replace H := iff_ h31 H
        refine seq_skip rfl rfl h24 ?_
        refine seq_skip rfl rfl h24 ?_
        refine seq_skip rfl rfl h24 ?_
        refine seq_skip rfl rfl h24 ?_
        refine seq_skip rfl rfl h24 ?_
        refine seq_run0 (stp_pick_f rfl (bFF h31) rfl) ?_
        refine seq_run0 (stp_move (.dat _) rfl) ?_
        refine seq_skip rfl rfl rfl ?_
        refine seq_skip rfl rfl rfl ?_
        refine seq_skip rfl rfl rfl ?_
        refine seq_skip rfl rfl rfl ?_
        refine seq_run0 (stp_pick_f rfl rfl rfl) ?_
        exact ⟨false, H, ⟨rfl, rfl, rfl, rfl, trivial⟩, trivial⟩
    · rintro v32 H
      replace H : message_isLabel_J3 v32 = some q3 := H
      unfold message_isLabel_J3 at H
      refine awp_cond _ rfl (fun h33 => ?_) (fun h33 => ?_)
      · replace H := ift h33 H
        refine awp_seq ?_
        refine awp_plain hN rfl ?_
        refine seq_run0 (stp_assign (.dat _) rfl) ?_
        refine awp_ret ?_
        replace H := retl H hq3
        cases H
        exact ⟨trivial, .inl rfl, trivial⟩
      · replace H := iff_ h33 H
        refine awp_skip ?_
        refine awp_plain hN rfl ?_
        refine seq_run0 (stp_add rfl rfl (by omega)) ?_
        refine seq_run0 (stp_move (.dat _) rfl) ?_
        exact ⟨_, backl H, ⟨rfl, rfl, rfl, trivial⟩, trivial⟩
theorem k_message_isHost (s1 : Bs) (r : (Bool)) (H : m_message_isHost s1 = some r) : Fn Tryz.prog 78 [vstr s1] (resOf [vbool r]) := by
  refine ⟨by kernel_rfl, pure_of (us := [vbool r]) Tryz.func78 rfl rfl rfl rfl fun X hN => ?_⟩
  unfold m_message_isHost at H
  refine awp_seq ?_
  refine awp_plain hN rfl ?_
  refine seq_run0 (stp_assign (.dat _) rfl) ?_
  refine awp_seq ?_
  refine awp_plain hN rfl ?_
  refine seq_run0 (stp_move (.dat _) rfl) ?_
  obtain ⟨r2, h3, H⟩ := bnd H
  refine seq_run0 (stp_call (k_strings_Cut s1 [58] r2 h3) ⟨.inl rfl, .inl rfl, trivial⟩) ?_
  refine seq_run0 (stp_move (.dat _) rfl) ?_
  refine seq_run0 (stp_ext rfl rfl) ?_
  refine seq_run0 (stp_ext rfl rfl) ?_
  refine seq_run0 (stp_ext rfl rfl) ?_
  refine seq_run0 (stp_assign (.dat _) rfl) ?_
  refine seq_run0 (stp_assign (.dat _) rfl) ?_
  refine seq_run0 (stp_assign (.dat _) rfl) ?_
  refine awp_seq ?_
  refine awp_seq ?_
  refine awp_plain hN rfl ?_
  refine seq_run0 (stp_move (.dat _) rfl) ?_
  obtain ⟨r4, h5, H⟩ := bnd H
  refine seq_run0 (stp_call (k_strings_Split r2.1 [46] r4 h5) ⟨.inl rfl, .inl rfl, trivial⟩) ?_
  refine seq_run0 (t_len tyU60 rfl) ?_
  refine seq_run0 (stp_move (.dat _) rfl) ?_
  refine awp_block ?_
  obtain ⟨h8, H⟩ := gif H
  refine awp_forL (fun (k6 : Nat) (s : Unit) => [(0, .dat (vstr s1)), (4, .dat (vstr r2.2.1)), (5, .dat (vbool r2.2.2)), (17, .dat (vlst (List.map C_string r4))), (18, .dat (vint (r4.length : Int))), (19, .dat (vint (k6 : Int)))]) (fun (k6 : Nat) (s : Unit) => []) () H ⟨rfl, rfl, rfl, rfl, rfl, rfl, trivial⟩ trivial (fun _ _ => rfl) ?_ ?_
  · rintro ⟨⟩ H
    replace H : message_isHost_E1 s1 r2 = some r := H
    unfold message_isHost_E1 at H
    refine awp_seq ?_
    refine awp_plain hN rfl ?_
    refine seq_run0 (stp_lss rfl rfl) ?_
    refine awp_seq ?_
    refine awp_cond _ rfl (fun h => (lt_t h).elim) (fun h => ?_)
    refine awp_exit ?_
    refine awp_seq ?_
    refine awp_plain hN rfl ?_
    refine seq_run0 (stp_move (.dat _) rfl) ?_
    obtain ⟨r10, h11, H⟩ := bnd H
    refine seq_run0 (stp_call (k_kit_Small r2.2.1 r10 h11) ⟨.inl rfl, trivial⟩) ?_
    refine seq_run0 (stp_move (.dat _) rfl) ?_
    refine seq_run0 (stp_ext rfl rfl) ?_
    refine seq_run0 (stp_ext rfl rfl) ?_
    refine seq_run0 (stp_assign (.dat _) rfl) ?_
    refine seq_run0 (stp_assign (.dat _) rfl) ?_
    refine awp_joinE (ι := Bool) (fun i => [(2, .dat (vbool i))]) (fun i => []) (fun i => message_isHost_J2 i = some r) (fun i => rfl) ?_ ?_
    · skip
      refine awp_plain hN rfl ?_
      refine seq_run0 (stp_move (.dat _) rfl) ?_
      refine seq_run0 (stp_len_str tyU9 rfl) ?_
      refine seq_run0 (stp_leq rfl rfl) ?_
      refine seq_run0 (stp_move (.dat _) rfl) ?_
      refine seq_split (j := 3) rfl rfl (fun h12 => ?_) (fun h12 => ?_) rfl
      · have h13 := un1 h12
        replace H := ift h13 H
        refine seq_g0 rfl rfl h12 (stp_move (.dat _) rfl) ?_
        refine seq_g0 rfl rfl h12 (stp_not rfl) ?_
        refine seq_g0 rfl rfl h12 (stp_move (.dat _) rfl) ?_
        refine seq_split (j := 6) rfl rfl (fun h14 => ?_) (fun h14 => ?_) rfl
        · have h15 := un3 h14
          replace H := iff_ h15 H
          refine seq_g0 rfl rfl h14 (stp_move (.dat _) rfl) ?_
          refine seq_g0 rfl rfl h14 (stp_move (.dat _) rfl) ?_
          refine seq_split (j := 8) rfl rfl (fun h16 => ?_) (fun h16 => ?_) rfl
          · have h17 := un1 h16
            replace H := ift h17 H
            refine seq_g0 rfl rfl h16 (stp_move (.dat _) rfl) ?_
            obtain ⟨r18, h19, H⟩ := bnd H
            refine seq_g0 rfl rfl h16 (stp_call (k_kit_Outside r10.1 1 65535 r18 h19) ⟨.inl rfl, .inl rfl, .inl rfl, trivial⟩) ?_
            refine seq_g0 rfl rfl h16 (stp_not rfl) ?_
            refine seq_g0 rfl rfl h14 (stp_pick_t rfl (bTT h17) rfl) ?_
            refine seq_g0 rfl rfl h12 (stp_pick_f rfl (bFF h15) rfl) ?_
            refine seq_run0 (stp_pick_t rfl (bTT h13) rfl) ?_
            refine seq_run0 (stp_assign (.dat _) rfl) ?_
            exact ⟨!r18, H, ⟨rfl, trivial⟩, trivial⟩
          · have h20 := un2 h16
            replace H := iff_ h20 H
            refine seq_skip rfl rfl h16 ?_
            refine seq_skip rfl rfl h16 ?_
            refine seq_skip rfl rfl h16 ?_
            refine seq_g0 rfl rfl h14 (stp_pick_f rfl (bFF h20) rfl) ?_
            refine seq_g0 rfl rfl h12 (stp_pick_f rfl (bFF h15) rfl) ?_
            refine seq_run0 (stp_pick_t rfl (bTT h13) rfl) ?_
            refine seq_run0 (stp_assign (.dat _) rfl) ?_
            exact ⟨false, H, ⟨rfl, trivial⟩, trivial⟩
        · have h21 := un4 h14
          replace H := ift h21 H
          refine seq_skip rfl rfl h14 ?_
          refine seq_skip rfl rfl h14 ?_
          refine seq_skipU rfl rfl ?_
          refine seq_skipU rfl rfl ?_
          refine seq_skipU rfl rfl ?_
          refine seq_skip rfl rfl h14 ?_
          refine seq_g0 rfl rfl h12 (stp_pick_t rfl (bTT h21) rfl) ?_
          refine seq_run0 (stp_pick_t rfl (bTT h13) rfl) ?_
          refine seq_run0 (stp_assign (.dat _) rfl) ?_
          exact ⟨true, H, ⟨rfl, trivial⟩, trivial⟩
      · have h22 := un2 h12
        replace H := iff_ h22 H
        refine seq_skip rfl rfl h12 ?_
        refine seq_skip rfl rfl h12 ?_
        refine seq_skip rfl rfl h12 ?_
        refine seq_skipU rfl rfl ?_
        refine seq_skipU rfl rfl ?_
        refine seq_skipU rfl rfl ?_
        refine seq_skipU rfl rfl ?_
        refine seq_skipU rfl rfl ?_
        refine seq_skipU rfl rfl ?_
        refine seq_skip rfl rfl h12 ?_
        refine seq_run0 (stp_pick_f rfl (bFF h22) rfl) ?_
        refine seq_run0 (stp_assign (.dat _) rfl) ?_
        exact ⟨false, H, ⟨rfl, trivial⟩, trivial⟩
    · rintro v23 H
      replace H : message_isHost_J2 v23 = some r := H
      unfold message_isHost_J2 at H
      refine awp_ret ?_
      cases H
      exact ⟨trivial, .inl rfl, trivial⟩
  · rintro k6 x9 ⟨⟩ q7 h24 h25 H hq7
    replace H : message_isHost_L1 k6 x9 = some q7 := H
    unfold message_isHost_L1 at H
    refine awp_seq ?_
    refine awp_plain hN rfl ?_
    refine seq_run0 (stp_lss rfl rfl) ?_
    refine awp_seq ?_
    refine awp_cond _ rfl (fun h => ?_) (fun h => (lt_f h24 h).elim)
    refine awp_skip ?_
    refine awp_seq ?_
    refine awp_block ?_
    refine awp_seq ?_
    refine awp_plain hN rfl ?_
    refine seq_run0 (t_idx tyE60 (fun _ => rfl) rfl rfl h25) ?_
    refine seq_run0 (stp_loadE1 tyS9 rfl (map_at h25) rfl) ?_
    refine seq_run0 (stp_assign (.dat _) rfl) ?_
    refine awp_seq ?_
    refine awp_plain hN rfl ?_
    refine seq_run0 (stp_move (.dat _) rfl) ?_
    obtain ⟨r26, h27, H⟩ := bnd H
    refine seq_run0 (stp_call (k_message_isLabel x9 r26 h27) ⟨.inl rfl, trivial⟩) ?_
    refine seq_run0 (stp_not rfl) ?_
    refine awp_cond _ rfl (fun h28 => ?_) (fun h28 => ?_)
    · replace H := ift h28 H
      refine awp_seq ?_
      refine awp_plain hN rfl ?_
      refine seq_run0 (stp_assign (.dat _) rfl) ?_
      refine awp_ret ?_
      replace H := retl H hq7
      cases H
      exact ⟨trivial, .inl rfl, trivial⟩
    · replace H := iff_ h28 H
      refine awp_skip ?_
      refine awp_plain hN rfl ?_
      refine seq_run0 (stp_add rfl rfl (by omega)) ?_
      refine seq_run0 (stp_move (.dat _) rfl) ?_
      exact ⟨_, backl H, ⟨rfl, rfl, rfl, rfl, rfl, rfl, trivial⟩, trivial⟩
theorem k_message_NormalHost (s1 : Bs) (r : (Bs × Int)) (H : m_message_NormalHost s1 = some r) : Fn Tryz.prog 39 [vstr s1] (resOf [vstr r.1, vint r.2]) := by
  refine ⟨by kernel_rfl, pure_of (us := [vstr r.1, vint r.2]) Tryz.func39 rfl rfl rfl rfl fun X hN => ?_⟩
  unfold m_message_NormalHost at H
  refine awp_seq ?_
  refine awp_plain hN rfl ?_
  refine seq_run0 (stp_assign (.dat _) rfl) ?_
  refine seq_run0 (stp_assign (.dat _) rfl) ?_
  refine awp_seq ?_
  refine awp_seq ?_
  refine awp_plain hN rfl ?_
  refine seq_run0 (stp_move (.dat _) rfl) ?_
  obtain ⟨r2, h3, H⟩ := bnd H
  refine seq_run0 (stp_call (k_message_isHost s1 r2 h3) ⟨.inl rfl, trivial⟩) ?_
  refine seq_run0 (stp_not rfl) ?_
  refine awp_cond _ rfl (fun h4 => ?_) (fun h4 => ?_)
  · replace H := ift h4 H
    refine awp_seq ?_
    refine awp_plain hN rfl ?_
    refine seq_run0 (stp_assign (.dat _) rfl) ?_
    refine seq_run0 (stp_assign (.dat _) rfl) ?_
    refine awp_ret ?_
    cases H
    exact ⟨trivial, .inl rfl, .inl rfl, trivial⟩
  · replace H := iff_ h4 H
    refine awp_skip ?_
    refine awp_seq ?_
    refine awp_plain hN rfl ?_
    refine seq_run0 (stp_move (.dat _) rfl) ?_
    obtain ⟨r5, h6, H⟩ := bnd H
    refine seq_run0 (stp_call (k_strings_ToLower s1 r5 h6) ⟨.inl rfl, trivial⟩) ?_
    obtain ⟨r7, h8, H⟩ := bnd H
    refine seq_run0 (stp_call (k_strings_Cut r5 [58] r7 h8) ⟨.inl rfl, .inl rfl, trivial⟩) ?_
    refine seq_run0 (stp_move (.dat _) rfl) ?_
    refine seq_run0 (stp_ext rfl rfl) ?_
    refine seq_run0 (stp_ext rfl rfl) ?_
    refine seq_run0 (stp_ext rfl rfl) ?_
    refine seq_run0 (stp_assign (.dat _) rfl) ?_
    refine seq_run0 (stp_assign (.dat _) rfl) ?_
    refine seq_run0 (stp_assign (.dat _) rfl) ?_
    refine awp_seq ?_
    refine awp_seq ?_
    refine awp_plain hN rfl ?_
    refine seq_run0 (stp_move (.dat _) rfl) ?_
    refine seq_run0 (stp_seql rfl rfl) ?_
    refine seq_run0 (stp_move (.dat _) rfl) ?_
    refine seq_aF rfl rfl (fun hc => stp_move (.dat _) rfl) ?_
    refine seq_aF rfl rfl (fun hc => stp_seql (cnd (c := (!(decide (r7.2.1 = [])))) hc) rfl) ?_
    refine seq_run0 (stp_pick_or rfl rfl (fun hb => (cnd (c := (!(decide (r7.2.1 = [])))) (notI hb)))) ?_
    refine seq_run0 (stp_move (.dat _) rfl) ?_
    refine seq_aF rfl rfl (fun hc => stp_move (.dat _) rfl) ?_
    refine seq_aF rfl rfl (fun hc => stp_seql (cnd (c := (!((decide (r7.2.1 = [])) || (decide (r7.2.1 = [56, 48]))))) hc) rfl) ?_
    refine seq_run0 (stp_pick_or rfl rfl (fun hb => (cnd (c := (!((decide (r7.2.1 = [])) || (decide (r7.2.1 = [56, 48]))))) (notI hb)))) ?_
    refine awp_cond _ rfl (fun h9 => ?_) (fun h9 => ?_)
    · replace H := ift h9 H
      refine awp_seq ?_
      refine awp_plain hN rfl ?_
      refine seq_run0 (stp_move (.dat _) rfl) ?_
      refine seq_run0 (stp_assign (.dat _) rfl) ?_
      refine seq_run0 (stp_assign (.dat _) rfl) ?_
      refine awp_ret ?_
      cases H
      exact ⟨trivial, .inl rfl, .inl rfl, trivial⟩
    · replace H := iff_ h9 H
      refine awp_skip ?_
      refine awp_seq ?_
      refine awp_plain hN rfl ?_
      refine seq_run0 (stp_move (.dat _) rfl) ?_
      obtain ⟨h10, H⟩ := gif H
      refine seq_run0 (stp_sadd rfl rfl (Nat.le_trans h10 (by decide))) ?_
      refine seq_run0 (stp_move (.dat _) rfl) ?_
      obtain ⟨h11, H⟩ := gif H
      refine seq_run0 (stp_sadd rfl rfl (Nat.le_trans h11 (by decide))) ?_
      refine seq_run0 (stp_assign (.dat _) rfl) ?_
      refine seq_run0 (stp_assign (.dat _) rfl) ?_
      refine awp_ret ?_
      cases H
      exact ⟨trivial, .inl rfl, .inl rfl, trivial⟩
theorem k_strings_HasPrefix (s p : Bs) (r : Bool) (H : m_strings_HasPrefix s p = some r) : Fn Tryz.prog 81 [vstr s, vstr p] (resOf [vbool r]) := by
  cases H
  refine fn_of_calls (by kernel_rfl) fun M w vs h => ?_
  have h1 := Ts_vals (us := [.string ⟨s.toArray⟩, .string ⟨p.toArray⟩]) h
  subst h1
  refine (Tryz.strings_HasPrefix ⟨s.toArray⟩ ⟨p.toArray⟩ w).mono ?_
  rintro e w' ⟨rfl, rfl⟩
  exact ⟨_, rfl, rfl, Kp.refl _ _⟩
theorem k_message_PathFault (s1 : Bs) (r : (Int)) (H : m_message_PathFault s1 = some r) : Fn Tryz.prog 42 [vstr s1] (resOf [vint r]) := by
  refine ⟨by kernel_rfl, pure_of (us := [vint r]) Tryz.func42 rfl rfl rfl rfl fun X hN => ?_⟩
  unfold m_message_PathFault at H
  refine awp_seq ?_
  refine awp_plain hN rfl ?_
  refine seq_run0 (stp_assign (.dat _) rfl) ?_
  refine awp_seq ?_
  refine awp_joinE (ι := Bool) (fun i => [(19, .dat (vbool i))]) (fun i => []) (fun i => message_PathFault_J1 i = some r) (fun i => rfl) ?_ ?_
  · skip
    refine awp_plain hN rfl ?_
    refine seq_run0 (stp_move (.dat _) rfl) ?_
    refine seq_run0 (stp_len_str tyU9 rfl) ?_
    refine seq_run0 (stp_gtr rfl rfl) ?_
    refine seq_run0 (stp_move (.dat _) rfl) ?_
    refine seq_split (j := 3) rfl rfl (fun h2 => ?_) (fun h2 => ?_) rfl
    · have h3 := un3 h2
      replace H := iff_ h3 H
      refine seq_g0 rfl rfl h2 (stp_move (.dat _) rfl) ?_
      obtain ⟨r4, h5, H⟩ := bnd H
      refine seq_g0 rfl rfl h2 (stp_call (k_strings_HasPrefix s1 [47] r4 h5) ⟨.inl rfl, .inl rfl, trivial⟩) ?_
      refine seq_g0 rfl rfl h2 (stp_not rfl) ?_
      refine seq_run0 (stp_pick_f rfl (bFF h3) rfl) ?_
      refine seq_run0 (stp_move (.dat _) rfl) ?_
      refine seq_split (j := 8) rfl rfl (fun h6 => ?_) (fun h6 => ?_) rfl
      · have h7 := un3 h6
        replace H := iff_ h7 H
        refine seq_g0 rfl rfl h6 (stp_move (.dat _) rfl) ?_
        obtain ⟨r8, h9, H⟩ := bnd H
        refine seq_g0 rfl rfl h6 (stp_call (k_message_isRange s1 33 126 r8 h9) ⟨.inl rfl, .inl rfl, .inl rfl, trivial⟩) ?_
        refine seq_g0 rfl rfl h6 (stp_not rfl) ?_
        refine seq_run0 (stp_pick_f rfl (bFF h7) rfl) ?_
        refine seq_run0 (stp_move (.dat _) rfl) ?_
        refine seq_split (j := 13) rfl rfl (fun h10 => ?_) (fun h10 => ?_) rfl
        · have h11 := un3 h10
          replace H := iff_ h11 H
          refine seq_g0 rfl rfl h10 (stp_move (.dat _) rfl) ?_
          obtain ⟨r12, h13, H⟩ := bnd H
          refine seq_g0 rfl rfl h10 (stp_call (k_strings_ContainsAny s1 [63, 35] r12 h13) ⟨.inl rfl, .inl rfl, trivial⟩) ?_
          refine seq_run0 (stp_pick_f rfl (bFF h11) rfl) ?_
          exact ⟨r12, H, ⟨rfl, trivial⟩, trivial⟩
        · have h14 := un4 h10
          replace H := ift h14 H
          refine seq_skip rfl rfl h10 ?_
          refine seq_skip rfl rfl h10 ?_
          refine seq_run0 (stp_pick_t rfl (bTT h14) rfl) ?_
          exact ⟨true, H, ⟨rfl, trivial⟩, trivial⟩
      · have h15 := un4 h6
        replace H := ift h15 H
        refine seq_skip rfl rfl h6 ?_
        refine seq_skip rfl rfl h6 ?_
        refine seq_skip rfl rfl h6 ?_
        refine seq_run0 (stp_pick_t rfl (bTT h15) rfl) ?_
        refine seq_run0 (stp_move (.dat _) rfl) ?_
        refine seq_skip rfl rfl rfl ?_
        refine seq_skip rfl rfl rfl ?_
        refine seq_run0 (stp_pick_t rfl rfl rfl) ?_
        exact ⟨true, H, ⟨rfl, trivial⟩, trivial⟩
    · have h16 := un4 h2
      replace H := ift h16 H
      refine seq_skip rfl rfl h2 ?_
      refine seq_skip rfl rfl h2 ?_
      refine seq_skip rfl rfl h2 ?_
      refine seq_run0 (stp_pick_t rfl (bTT h16) rfl) ?_
      refine seq_run0 (stp_move (.dat _) rfl) ?_
      refine seq_skip rfl rfl rfl ?_
      refine seq_skip rfl rfl rfl ?_
      refine seq_skip rfl rfl rfl ?_
      refine seq_run0 (stp_pick_t rfl rfl rfl) ?_
      refine seq_run0 (stp_move (.dat _) rfl) ?_
      refine seq_skip rfl rfl rfl ?_
      refine seq_skip rfl rfl rfl ?_
      refine seq_run0 (stp_pick_t rfl rfl rfl) ?_
      exact ⟨true, H, ⟨rfl, trivial⟩, trivial⟩
  · rintro v17 H
    replace H : message_PathFault_J1 v17 = some r := H
    unfold message_PathFault_J1 at H
    refine awp_cond _ rfl (fun h18 => ?_) (fun h18 => ?_)
    · replace H := ift h18 H
      refine awp_seq ?_
      refine awp_plain hN rfl ?_
      refine seq_run0 (stp_assign (.dat _) rfl) ?_
      refine awp_ret ?_
      cases H
      exact ⟨trivial, .inl rfl, trivial⟩
    · replace H := iff_ h18 H
      refine awp_skip ?_
      refine awp_seq ?_
      refine awp_plain hN rfl ?_
      refine seq_run0 (stp_assign (.dat _) rfl) ?_
      refine awp_ret ?_
      cases H
      exact ⟨trivial, .inl rfl, trivial⟩
theorem k_message_CookieText (v1 : S_api_Cookie) (r : (Bs × Int)) (H : m_message_CookieText v1 = some r) : Fn Tryz.prog 9 [vagg (C_api_Cookie v1)] (resOf [vstr r.1, vint r.2]) := by
  refine ⟨by kernel_rfl, pure_of (us := [vstr r.1, vint r.2]) Tryz.func9 rfl rfl rfl rfl fun X hN => ?_⟩
  unfold m_message_CookieText at H
  refine awp_seq ?_
  refine awp_plain hN rfl ?_
  refine seq_run2 (stp_boxA 1 rfl) rfl ?_
  refine seq_run0 (stp_assign (.dat _) rfl) ?_
  refine seq_run0 (stp_assign (.dat _) rfl) ?_
  refine awp_seq ?_
  refine awp_seq ?_
  refine awp_plain hN rfl ?_
  refine seq_run0 (stp_fldP tyF29_0 rfl) ?_
  refine seq_run1 (stp_load1 tyS9 rfl rfl) rfl ?_
  obtain ⟨r2, h3, H⟩ := bnd H
  refine seq_run0 (stp_call (k_message_IsToken v1.Name r2 h3) ⟨.inl rfl, trivial⟩) ?_
  refine seq_run0 (stp_not rfl) ?_
  refine awp_cond _ rfl (fun h4 => ?_) (fun h4 => ?_)
  · replace H := ift h4 H
    refine awp_seq ?_
    refine awp_plain hN rfl ?_
    refine seq_run0 (stp_assign (.dat _) rfl) ?_
    refine seq_run0 (stp_assign (.dat _) rfl) ?_
    refine awp_ret ?_
    cases H
    exact ⟨trivial, .inl rfl, .inl rfl, trivial⟩
  · replace H := iff_ h4 H
    refine awp_skip ?_
    refine awp_seq ?_
    refine awp_plain hN rfl ?_
    refine seq_run0 (stp_fldP tyF29_2 rfl) ?_
    refine seq_run1 (stp_load1 tyS9 rfl rfl) rfl ?_
    obtain ⟨r5, h6, H⟩ := bnd H
    refine seq_run0 (stp_call (k_message_NormalHost v1.Domain r5 h6) ⟨.inl rfl, trivial⟩) ?_
    refine seq_run0 (stp_move (.dat _) rfl) ?_
    refine seq_run0 (stp_ext rfl rfl) ?_
    refine seq_run0 (stp_ext rfl rfl) ?_
    refine seq_run0 (stp_assign (.dat _) rfl) ?_
    refine seq_run0 (stp_assign (.dat _) rfl) ?_
    refine awp_seq ?_
    refine awp_block ?_
    refine awp_joinE (ι := Bool) (fun i => [(1, .ptr 1 0), (4, .dat (vstr r5.1)), (5, .dat (vint r5.2)), (17, .dat (vbool i))]) (fun i => [(1, .box none 29 [.dat (vstr v1.Name), .dat (vstr v1.Value), .dat (vstr v1.Domain), .dat (vstr v1.Path), .dat (vint v1.MaxAge), .dat (vbool v1.Secure), .dat (vbool v1.Hidden)])]) (fun i => message_CookieText_J1 v1 r5 i = some r) (fun i => rfl) ?_ ?_
    · skip
      refine awp_plain hN rfl ?_
      refine seq_run0 (stp_fldP tyF29_1 rfl) ?_
      refine seq_run1 (stp_load1 tyS9 rfl rfl) rfl ?_
      obtain ⟨r7, h8, H⟩ := bnd H
      refine seq_run0 (stp_call (k_message_isCookieValue v1.Value r7 h8) ⟨.inl rfl, trivial⟩) ?_
      refine seq_run0 (stp_not rfl) ?_
      refine seq_run0 (stp_move (.dat _) rfl) ?_
      refine seq_split (j := 4) rfl rfl (fun h9 => ?_) (fun h9 => ?_) rfl
      · have h10 := un3 h9
        replace H := iff_ h10 H
        refine seq_g0 rfl rfl h9 (stp_fldP tyF29_1 rfl) ?_
        refine seq_g1 rfl rfl h9 (stp_load1 tyS9 rfl rfl) rfl ?_
        obtain ⟨r11, h12, H⟩ := bnd H
        refine seq_g0 rfl rfl h9 (stp_call (k_message_IsField v1.Value r11 h12) ⟨.inl rfl, trivial⟩) ?_
        refine seq_g0 rfl rfl h9 (stp_not rfl) ?_
        refine seq_run0 (stp_pick_f rfl (bFF h10) rfl) ?_
        refine seq_run0 (stp_assign (.dat _) rfl) ?_
        exact ⟨!r11, H, ⟨rfl, rfl, rfl, rfl, trivial⟩, ⟨rfl, trivial⟩⟩
      · have h13 := un4 h9
        replace H := ift h13 H
        refine seq_skip rfl rfl h9 ?_
        refine seq_skip rfl rfl h9 ?_
        refine seq_skip rfl rfl h9 ?_
        refine seq_skip rfl rfl h9 ?_
        refine seq_run0 (stp_pick_t rfl (bTT h13) rfl) ?_
        refine seq_run0 (stp_assign (.dat _) rfl) ?_
        exact ⟨true, H, ⟨rfl, rfl, rfl, rfl, trivial⟩, ⟨rfl, trivial⟩⟩
    · rintro v14 H
      replace H : message_CookieText_J1 v1 r5 v14 = some r := H
      unfold message_CookieText_J1 at H
      refine awp_cond _ rfl (fun h15 => ?_) (fun h15 => ?_)
      · replace H := ift h15 H
        refine awp_seq ?_
        refine awp_plain hN rfl ?_
        refine seq_run0 (stp_assign (.dat _) rfl) ?_
        refine seq_run0 (stp_assign (.dat _) rfl) ?_
        refine awp_ret ?_
        cases H
        exact ⟨trivial, .inl rfl, .inl rfl, trivial⟩
      · replace H := iff_ h15 H
        refine awp_joinE (ι := Bool) (fun i => [(1, .ptr 1 0), (28, .dat (vbool i))]) (fun i => [(1, .box none 29 [.dat (vstr v1.Name), .dat (vstr v1.Value), .dat (vstr v1.Domain), .dat (vstr v1.Path), .dat (vint v1.MaxAge), .dat (vbool v1.Secure), .dat (vbool v1.Hidden)])]) (fun i => message_CookieText_J2 v1 i = some r) (fun i => rfl) ?_ ?_
        · skip
          refine awp_plain hN rfl ?_
          refine seq_run0 (stp_fldP tyF29_2 rfl) ?_
          refine seq_run1 (stp_load1 tyS9 rfl rfl) rfl ?_
          refine seq_run0 (stp_sneq rfl rfl) ?_
          refine seq_run0 (stp_move (.dat _) rfl) ?_
          refine seq_split (j := 3) rfl rfl (fun h16 => ?_) (fun h16 => ?_) rfl
          · have h17 := un1 h16
            replace H := ift h17 H
            refine seq_g0 rfl rfl h16 (stp_move (.dat _) rfl) ?_
            refine seq_g0 rfl rfl h16 (stp_neq rfl rfl) ?_
            refine seq_g0 rfl rfl h16 (stp_move (.dat _) rfl) ?_
            refine seq_split (j := 6) rfl rfl (fun h18 => ?_) (fun h18 => ?_) rfl
            · have h19 := un3 h18
              replace H := iff_ h19 H
              refine seq_g0 rfl rfl h18 (stp_move (.dat _) rfl) ?_
              refine seq_g0 rfl rfl h18 (stp_fldP tyF29_2 rfl) ?_
              refine seq_g1 rfl rfl h18 (stp_load1 tyS9 rfl rfl) rfl ?_
              refine seq_g0 rfl rfl h18 (stp_sneq rfl rfl) ?_
              refine seq_g0 rfl rfl h16 (stp_pick_f rfl (bFF h19) rfl) ?_
              refine seq_g0 rfl rfl h16 (stp_move (.dat _) rfl) ?_
              refine seq_split (j := 12) rfl rfl (fun h20 => ?_) (fun h20 => ?_) rfl
              · have h21 := un3 h20
                replace H := iff_ h21 H
                refine seq_g0 rfl rfl h20 (stp_move (.dat _) rfl) ?_
                obtain ⟨r22, h23, H⟩ := bnd H
                refine seq_g0 rfl rfl h20 (stp_call (k_strings_Contains r5.1 [58] r22 h23) ⟨.inl rfl, .inl rfl, trivial⟩) ?_
                refine seq_g0 rfl rfl h16 (stp_pick_f rfl (bFF h21) rfl) ?_
                refine seq_run0 (stp_pick_t rfl (bTT h17) rfl) ?_
                refine seq_run0 (stp_assign (.dat _) rfl) ?_
                exact ⟨r22, H, ⟨rfl, rfl, trivial⟩, ⟨rfl, trivial⟩⟩
              · have h24 := un4 h20
                replace H := ift h24 H
                refine seq_skip rfl rfl h20 ?_
                refine seq_skip rfl rfl h20 ?_
                refine seq_g0 rfl rfl h16 (stp_pick_t rfl (bTT h24) rfl) ?_
                refine seq_run0 (stp_pick_t rfl (bTT h17) rfl) ?_
                refine seq_run0 (stp_assign (.dat _) rfl) ?_
                exact ⟨true, H, ⟨rfl, rfl, trivial⟩, ⟨rfl, trivial⟩⟩
            · have h25 := un4 h18
              replace H := ift h25 H
              refine seq_skip rfl rfl h18 ?_
              refine seq_skip rfl rfl h18 ?_
              refine seq_skip rfl rfl h18 ?_
              refine seq_skip rfl rfl h18 ?_
              refine seq_g0 rfl rfl h16 (stp_pick_t rfl (bTT h25) rfl) ?_
              refine seq_g0 rfl rfl h16 (stp_move (.dat _) rfl) ?_
              refine seq_skip rfl rfl rfl ?_
              refine seq_skip rfl rfl rfl ?_
              refine seq_g0 rfl rfl h16 (stp_pick_t rfl rfl rfl) ?_
              refine seq_run0 (stp_pick_t rfl (bTT h17) rfl) ?_
              refine seq_run0 (stp_assign (.dat _) rfl) ?_
              exact ⟨true, H, ⟨rfl, rfl, trivial⟩, ⟨rfl, trivial⟩⟩
          · have h26 := un2 h16
            replace H := iff_ h26 H
            refine seq_skip rfl rfl h16 ?_
            refine seq_skip rfl rfl h16 ?_
            refine seq_skip rfl rfl h16 ?_
            refine seq_skipU rfl rfl ?_
            refine seq_skipU rfl rfl ?_
            refine seq_skipU rfl rfl ?_
            refine seq_skipU rfl rfl ?_
            refine seq_skip rfl rfl h16 ?_
            refine seq_skip rfl rfl h16 ?_
            refine seq_skipU rfl rfl ?_
            refine seq_skipU rfl rfl ?_
            refine seq_skip rfl rfl h16 ?_
            refine seq_run0 (stp_pick_f rfl (bFF h26) rfl) ?_
            refine seq_run0 (stp_assign (.dat _) rfl) ?_
            exact ⟨false, H, ⟨rfl, rfl, trivial⟩, ⟨rfl, trivial⟩⟩
        · rintro v27 H
          replace H : message_CookieText_J2 v1 v27 = some r := H
          unfold message_CookieText_J2 at H
          refine awp_cond _ rfl (fun h28 => ?_) (fun h28 => ?_)
          · replace H := ift h28 H
            refine awp_seq ?_
            refine awp_plain hN rfl ?_
            refine seq_run0 (stp_assign (.dat _) rfl) ?_
            refine seq_run0 (stp_assign (.dat _) rfl) ?_
            refine awp_ret ?_
            cases H
            exact ⟨trivial, .inl rfl, .inl rfl, trivial⟩
          · replace H := iff_ h28 H
            refine awp_joinE (ι := Bool) (fun i => [(1, .ptr 1 0), (46, .dat (vbool i))]) (fun i => [(1, .box none 29 [.dat (vstr v1.Name), .dat (vstr v1.Value), .dat (vstr v1.Domain), .dat (vstr v1.Path), .dat (vint v1.MaxAge), .dat (vbool v1.Secure), .dat (vbool v1.Hidden)])]) (fun i => message_CookieText_J3 v1 i = some r) (fun i => rfl) ?_ ?_
            · skip
              refine awp_plain hN rfl ?_
              refine seq_run0 (stp_fldP tyF29_3 rfl) ?_
              refine seq_run1 (stp_load1 tyS9 rfl rfl) rfl ?_
              refine seq_run0 (stp_sneq rfl rfl) ?_
              refine seq_run0 (stp_move (.dat _) rfl) ?_
              refine seq_split (j := 3) rfl rfl (fun h29 => ?_) (fun h29 => ?_) rfl
              · have h30 := un1 h29
                replace H := ift h30 H
                refine seq_g0 rfl rfl h29 (stp_fldP tyF29_3 rfl) ?_
                refine seq_g1 rfl rfl h29 (stp_load1 tyS9 rfl rfl) rfl ?_
                obtain ⟨r31, h32, H⟩ := bnd H
                refine seq_g0 rfl rfl h29 (stp_call (k_message_PathFault v1.Path r31 h32) ⟨.inl rfl, trivial⟩) ?_
                refine seq_g0 rfl rfl h29 (stp_neq rfl rfl) ?_
                refine seq_g0 rfl rfl h29 (stp_move (.dat _) rfl) ?_
                refine seq_split (j := 8) rfl rfl (fun h33 => ?_) (fun h33 => ?_) rfl
                · have h34 := un3 h33
                  replace H := iff_ h34 H
                  refine seq_g0 rfl rfl h33 (stp_fldP tyF29_3 rfl) ?_
                  refine seq_g1 rfl rfl h33 (stp_load1 tyS9 rfl rfl) rfl ?_
                  obtain ⟨r35, h36, H⟩ := bnd H
                  refine seq_g0 rfl rfl h33 (stp_call (k_strings_Contains v1.Path [59] r35 h36) ⟨.inl rfl, .inl rfl, trivial⟩) ?_
                  refine seq_g0 rfl rfl h29 (stp_pick_f rfl (bFF h34) rfl) ?_
                  refine seq_run0 (stp_pick_t rfl (bTT h30) rfl) ?_
                  refine seq_run0 (stp_assign (.dat _) rfl) ?_
                  exact ⟨r35, H, ⟨rfl, rfl, trivial⟩, ⟨rfl, trivial⟩⟩
                · have h37 := un4 h33
                  replace H := ift h37 H
                  refine seq_skip rfl rfl h33 ?_
                  refine seq_skip rfl rfl h33 ?_
                  refine seq_skip rfl rfl h33 ?_
                  refine seq_g0 rfl rfl h29 (stp_pick_t rfl (bTT h37) rfl) ?_
                  refine seq_run0 (stp_pick_t rfl (bTT h30) rfl) ?_
                  refine seq_run0 (stp_assign (.dat _) rfl) ?_
                  exact ⟨true, H, ⟨rfl, rfl, trivial⟩, ⟨rfl, trivial⟩⟩
              · have h38 := un2 h29
                replace H := iff_ h38 H
                refine seq_skip rfl rfl h29 ?_
                refine seq_skip rfl rfl h29 ?_
                refine seq_skip rfl rfl h29 ?_
                refine seq_skip rfl rfl h29 ?_
                refine seq_skip rfl rfl h29 ?_
                refine seq_skipU rfl rfl ?_
                refine seq_skipU rfl rfl ?_
                refine seq_skipU rfl rfl ?_
                refine seq_skip rfl rfl h29 ?_
                refine seq_run0 (stp_pick_f rfl (bFF h38) rfl) ?_
                refine seq_run0 (stp_assign (.dat _) rfl) ?_
                exact ⟨false, H, ⟨rfl, rfl, trivial⟩, ⟨rfl, trivial⟩⟩
            · rintro v39 H
              replace H : message_CookieText_J3 v1 v39 = some r := H
              unfold message_CookieText_J3 at H
              refine awp_cond _ rfl (fun h40 => ?_) (fun h40 => ?_)
              · replace H := ift h40 H
                refine awp_seq ?_
                refine awp_plain hN rfl ?_
                refine seq_run0 (stp_assign (.dat _) rfl) ?_
                refine seq_run0 (stp_assign (.dat _) rfl) ?_
                refine awp_ret ?_
                cases H
                exact ⟨trivial, .inl rfl, .inl rfl, trivial⟩
              · replace H := iff_ h40 H
                refine awp_seq ?_
                refine awp_plain hN rfl ?_
                refine seq_run0 (stp_fldP tyF29_4 rfl) ?_
                refine seq_run1 (stp_load1 tyS3 rfl rfl) rfl ?_
                obtain ⟨r41, h42, H⟩ := bnd H
                refine seq_run0 (stp_call (k_kit_Outside v1.MaxAge (-1) 1000000000000000 r41 h42) ⟨.inl rfl, .inl rfl, .inl rfl, trivial⟩) ?_
                refine seq_run0 (stp_assign (.dat _) rfl) ?_
                refine awp_cond _ rfl (fun h43 => ?_) (fun h43 => ?_)
                · replace H := ift h43 H
                  refine awp_seq ?_
                  refine awp_plain hN rfl ?_
                  refine seq_run0 (stp_assign (.dat _) rfl) ?_
                  refine seq_run0 (stp_assign (.dat _) rfl) ?_
                  refine awp_ret ?_
                  cases H
                  exact ⟨trivial, .inl rfl, .inl rfl, trivial⟩
                · replace H := iff_ h43 H
                  refine awp_skip ?_
                  refine awp_seq ?_
                  refine awp_plain hN rfl ?_
                  refine seq_run0 (stp_fldP tyF29_0 rfl) ?_
                  refine seq_run1 (stp_load1 tyS9 rfl rfl) rfl ?_
                  obtain ⟨h44, H⟩ := gif H
                  refine seq_run0 (stp_sadd rfl rfl (Nat.le_trans h44 (by decide))) ?_
                  refine seq_run0 (stp_fldP tyF29_1 rfl) ?_
                  refine seq_run1 (stp_load1 tyS9 rfl rfl) rfl ?_
                  obtain ⟨h45, H⟩ := gif H
                  refine seq_run0 (stp_sadd rfl rfl (Nat.le_trans h45 (by decide))) ?_
                  refine seq_run0 (stp_assign (.dat _) rfl) ?_
                  refine awp_joinE (ι := Bs) (fun i => [(1, .ptr 1 0), (6, .dat (vstr i))]) (fun i => [(1, .box none 29 [.dat (vstr v1.Name), .dat (vstr v1.Value), .dat (vstr v1.Domain), .dat (vstr v1.Path), .dat (vint v1.MaxAge), .dat (vbool v1.Secure), .dat (vbool v1.Hidden)])]) (fun i => message_CookieText_J4 v1 i = some r) (fun i => rfl) ?_ ?_
                  · skip
                    refine awp_seq ?_
                    refine awp_plain hN rfl ?_
                    refine seq_run0 (stp_fldP tyF29_2 rfl) ?_
                    refine seq_run1 (stp_load1 tyS9 rfl rfl) rfl ?_
                    refine seq_run0 (stp_sneq rfl rfl) ?_
                    refine awp_cond _ rfl (fun h46 => ?_) (fun h46 => ?_)
                    · replace H := ift h46 H
                      refine awp_plain hN rfl ?_
                      refine seq_run0 (stp_move (.dat _) rfl) ?_
                      refine seq_run0 (stp_fldP tyF29_2 rfl) ?_
                      refine seq_run1 (stp_load1 tyS9 rfl rfl) rfl ?_
                      obtain ⟨h47, H⟩ := gif H
                      refine seq_run0 (stp_sadd rfl rfl (Nat.le_trans h47 (by decide))) ?_
                      obtain ⟨h48, H⟩ := gif H
                      refine seq_run0 (stp_sadd rfl rfl (Nat.le_trans h48 (by decide))) ?_
                      refine seq_run0 (stp_assign (.dat _) rfl) ?_
                      exact ⟨(((v1.Name ++ [61]) ++ v1.Value) ++ ([59, 32, 68, 111, 109, 97, 105, 110, 61] ++ v1.Domain)), H, ⟨rfl, rfl, trivial⟩, ⟨rfl, trivial⟩⟩
                    · replace H := iff_ h46 H
                      refine awp_skip ?_
                      exact ⟨((v1.Name ++ [61]) ++ v1.Value), H, ⟨rfl, rfl, trivial⟩, ⟨rfl, trivial⟩⟩
                  · rintro v49 H
                    replace H : message_CookieText_J4 v1 v49 = some r := H
                    unfold message_CookieText_J4 at H
                    refine awp_joinE (ι := Bs) (fun i => [(1, .ptr 1 0), (6, .dat (vstr i))]) (fun i => [(1, .box none 29 [.dat (vstr v1.Name), .dat (vstr v1.Value), .dat (vstr v1.Domain), .dat (vstr v1.Path), .dat (vint v1.MaxAge), .dat (vbool v1.Secure), .dat (vbool v1.Hidden)])]) (fun i => message_CookieText_J5 v1 i = some r) (fun i => rfl) ?_ ?_
                    · skip
                      refine awp_seq ?_
                      refine awp_plain hN rfl ?_
                      refine seq_run0 (stp_fldP tyF29_3 rfl) ?_
                      refine seq_run1 (stp_load1 tyS9 rfl rfl) rfl ?_
                      refine seq_run0 (stp_sneq rfl rfl) ?_
                      refine awp_cond _ rfl (fun h50 => ?_) (fun h50 => ?_)
                      · replace H := ift h50 H
                        refine awp_plain hN rfl ?_
                        refine seq_run0 (stp_move (.dat _) rfl) ?_
                        refine seq_run0 (stp_fldP tyF29_3 rfl) ?_
                        refine seq_run1 (stp_load1 tyS9 rfl rfl) rfl ?_
                        obtain ⟨h51, H⟩ := gif H
                        refine seq_run0 (stp_sadd rfl rfl (Nat.le_trans h51 (by decide))) ?_
                        obtain ⟨h52, H⟩ := gif H
                        refine seq_run0 (stp_sadd rfl rfl (Nat.le_trans h52 (by decide))) ?_
                        refine seq_run0 (stp_assign (.dat _) rfl) ?_
                        exact ⟨(v49 ++ ([59, 32, 80, 97, 116, 104, 61] ++ v1.Path)), H, ⟨rfl, rfl, trivial⟩, ⟨rfl, trivial⟩⟩
                      · replace H := iff_ h50 H
                        refine awp_skip ?_
                        exact ⟨v49, H, ⟨rfl, rfl, trivial⟩, ⟨rfl, trivial⟩⟩
                    · rintro v53 H
                      replace H : message_CookieText_J5 v1 v53 = some r := H
                      unfold message_CookieText_J5 at H
                      refine awp_joinE (ι := Bs) (fun i => [(1, .ptr 1 0), (6, .dat (vstr i))]) (fun i => [(1, .box none 29 [.dat (vstr v1.Name), .dat (vstr v1.Value), .dat (vstr v1.Domain), .dat (vstr v1.Path), .dat (vint v1.MaxAge), .dat (vbool v1.Secure), .dat (vbool v1.Hidden)])]) (fun i => message_CookieText_J6 v1 i = some r) (fun i => rfl) ?_ ?_
                      · skip
                        refine awp_seq ?_
                        refine awp_plain hN rfl ?_
                        refine seq_run0 (stp_fldP tyF29_4 rfl) ?_
                        refine seq_run1 (stp_load1 tyS3 rfl rfl) rfl ?_
                        refine seq_run0 (stp_geq rfl rfl) ?_
                        refine awp_cond _ rfl (fun h54 => ?_) (fun h54 => ?_)
                        · replace H := ift h54 H
                          refine awp_plain hN rfl ?_
                          refine seq_run0 (stp_move (.dat _) rfl) ?_
                          refine seq_run0 (stp_fldP tyF29_4 rfl) ?_
                          refine seq_run1 (stp_load1 tyS3 rfl rfl) rfl ?_
                          obtain ⟨r55, h56, H⟩ := bnd H
                          refine seq_run0 (stp_call (k_strconv_Itoa v1.MaxAge r55 h56) ⟨.inl rfl, trivial⟩) ?_
                          obtain ⟨h57, H⟩ := gif H
                          refine seq_run0 (stp_sadd rfl rfl (Nat.le_trans h57 (by decide))) ?_
                          obtain ⟨h58, H⟩ := gif H
                          refine seq_run0 (stp_sadd rfl rfl (Nat.le_trans h58 (by decide))) ?_
                          refine seq_run0 (stp_assign (.dat _) rfl) ?_
                          exact ⟨(v53 ++ ([59, 32, 77, 97, 120, 45, 65, 103, 101, 61] ++ r55)), H, ⟨rfl, rfl, trivial⟩, ⟨rfl, trivial⟩⟩
                        · replace H := iff_ h54 H
                          refine awp_skip ?_
                          exact ⟨v53, H, ⟨rfl, rfl, trivial⟩, ⟨rfl, trivial⟩⟩
                      · rintro v59 H
                        replace H : message_CookieText_J6 v1 v59 = some r := H
                        unfold message_CookieText_J6 at H
                        refine awp_joinE (ι := Bs) (fun i => [(1, .ptr 1 0), (6, .dat (vstr i))]) (fun i => [(1, .box none 29 [.dat (vstr v1.Name), .dat (vstr v1.Value), .dat (vstr v1.Domain), .dat (vstr v1.Path), .dat (vint v1.MaxAge), .dat (vbool v1.Secure), .dat (vbool v1.Hidden)])]) (fun i => message_CookieText_J7 v1 i = some r) (fun i => rfl) ?_ ?_
                        · skip
                          refine awp_seq ?_
                          refine awp_plain hN rfl ?_
                          refine seq_run0 (stp_fldP tyF29_5 rfl) ?_
                          refine seq_run1 (stp_load1 tyS4 rfl rfl) rfl ?_
                          refine awp_cond _ rfl (fun h60 => ?_) (fun h60 => ?_)
                          · replace H := ift h60 H
                            refine awp_plain hN rfl ?_
                            refine seq_run0 (stp_move (.dat _) rfl) ?_
                            obtain ⟨h61, H⟩ := gif H
                            refine seq_run0 (stp_sadd rfl rfl (Nat.le_trans h61 (by decide))) ?_
                            refine seq_run0 (stp_assign (.dat _) rfl) ?_
                            exact ⟨(v59 ++ [59, 32, 83, 101, 99, 117, 114, 101]), H, ⟨rfl, rfl, trivial⟩, ⟨rfl, trivial⟩⟩
                          · replace H := iff_ h60 H
                            refine awp_skip ?_
                            exact ⟨v59, H, ⟨rfl, rfl, trivial⟩, ⟨rfl, trivial⟩⟩
                        · rintro v62 H
                          replace H : message_CookieText_J7 v1 v62 = some r := H
                          unfold message_CookieText_J7 at H
                          refine awp_joinE (ι := Bs) (fun i => [(6, .dat (vstr i))]) (fun i => []) (fun i => message_CookieText_J8 i = some r) (fun i => rfl) ?_ ?_
                          · skip
                            refine awp_seq ?_
                            refine awp_plain hN rfl ?_
                            refine seq_run0 (stp_fldP tyF29_6 rfl) ?_
                            refine seq_run1 (stp_load1 tyS4 rfl rfl) rfl ?_
                            refine awp_cond _ rfl (fun h63 => ?_) (fun h63 => ?_)
                            · replace H := ift h63 H
                              refine awp_plain hN rfl ?_
                              refine seq_run0 (stp_move (.dat _) rfl) ?_
                              obtain ⟨h64, H⟩ := gif H
                              refine seq_run0 (stp_sadd rfl rfl (Nat.le_trans h64 (by decide))) ?_
                              refine seq_run0 (stp_assign (.dat _) rfl) ?_
                              exact ⟨(v62 ++ [59, 32, 72, 116, 116, 112, 79, 110, 108, 121]), H, ⟨rfl, trivial⟩, trivial⟩
                            · replace H := iff_ h63 H
                              refine awp_skip ?_
                              exact ⟨v62, H, ⟨rfl, trivial⟩, trivial⟩
                          · rintro v65 H
                            replace H : message_CookieText_J8 v65 = some r := H
                            unfold message_CookieText_J8 at H
                            refine awp_seq ?_
                            refine awp_plain hN rfl ?_
                            refine seq_run0 (stp_move (.dat _) rfl) ?_
                            refine seq_run0 (stp_assign (.dat _) rfl) ?_
                            refine seq_run0 (stp_assign (.dat _) rfl) ?_
                            refine awp_ret ?_
                            cases H
                            exact ⟨trivial, .inl rfl, .inl rfl, trivial⟩
theorem k_message_ParseCookie (v1 : Bs) (r : (S_api_Cookie × Int)) (H : m_message_ParseCookie v1 = some r) : Fn Tryz.prog 12 [vstr v1] (resOf [vagg (C_api_Cookie r.1), vint r.2]) := by
  refine ⟨by kernel_rfl, pure_of (us := [vagg (C_api_Cookie r.1), vint r.2]) Tryz.func12 rfl rfl rfl rfl fun X hN => ?_⟩
  unfold m_message_ParseCookie at H
  refine awp_seq ?_
  refine awp_plain hN rfl ?_
  refine seq_run2 (stp_alloc 1 tyZ29 rfl) rfl ?_
  refine seq_run0 (stp_assign (.dat _) rfl) ?_
  refine awp_seq ?_
  refine awp_plain hN rfl ?_
  refine seq_run0 (stp_move (.dat _) rfl) ?_
  obtain ⟨r2, h3, H⟩ := bnd H
  refine seq_run0 (stp_call (k_strings_Split v1 [59, 32] r2 h3) ⟨.inl rfl, .inl rfl, trivial⟩) ?_
  refine seq_run0 (stp_assign (.dat _) rfl) ?_
  refine awp_seq ?_
  refine awp_plain hN rfl ?_
  refine seq_run0 (stp_dat (u' := vagg (C_api_Cookie (S_api_Cookie.mk [] [] [] [] (-1) false false))) (stp_build [(4, [vint (-1)])] tyZ29 tyP29 rfl ⟨rfl, .inl ⟨_, rfl, rfl, rfl⟩, rfl, trivial⟩) rfl) ?_
  refine seq_run2 (stp_alloc 2 tyZ29 rfl) rfl ?_
  refine seq_run2 (stp_storeW tyS29 rfl rfl rfl rfl) rfl ?_
  refine awp_seq ?_
  refine awp_plain hN rfl ?_
  refine seq_run0 (stp_move (.dat _) rfl) ?_
  obtain ⟨x4, h5, H⟩ := bnd H
  refine seq_run0 (t_idx tyE60 (fun _ => rfl) rfl rfl h5) ?_
  refine seq_run0 (stp_loadE1 tyS9 rfl (map_at h5) rfl) ?_
  obtain ⟨r6, h7, H⟩ := bnd H
  refine seq_run0 (stp_call (k_strings_Cut x4 [61] r6 h7) ⟨.inl rfl, .inl rfl, trivial⟩) ?_
  refine seq_run0 (stp_move (.dat _) rfl) ?_
  refine seq_run0 (stp_ext rfl rfl) ?_
  refine seq_run0 (stp_ext rfl rfl) ?_
  refine seq_run0 (stp_ext rfl rfl) ?_
  refine seq_run0 (stp_fldP tyF29_0 rfl) ?_
  refine seq_run2 (stp_store1 tyS9 rfl rfl rfl rfl) rfl ?_
  refine seq_run0 (stp_fldP tyF29_1 rfl) ?_
  refine seq_run2 (stp_store1 tyS9 rfl rfl rfl rfl) rfl ?_
  refine awp_seq ?_
  refine awp_seq ?_
  refine awp_plain hN rfl ?_
  refine seq_run0 (stp_move (.dat _) rfl) ?_
  obtain ⟨l8, h9, H⟩ := bnd H
  refine seq_run0 (t_subL tyE60 (fun _ => rfl) rfl rfl rfl h9) ?_
  refine seq_run0 (t_len tyU60 rfl) ?_
  refine seq_run0 (stp_move (.dat _) rfl) ?_
  refine awp_block ?_
  obtain ⟨h17, H⟩ := gif H
  refine awp_forL (fun (k15 : Nat) (s : Bs × Bs × Int × Bool × Bool) => [(0, .dat (vstr v1)), (2, .ptr 1 0), (5, .ptr 2 0), (29, .dat (vlst (List.map C_string l8))), (30, .dat (vint (l8.length : Int))), (31, .dat (vint (k15 : Int)))]) (fun (k15 : Nat) (s : Bs × Bs × Int × Bool × Bool) => [(1, .box none 29 [.dat (vstr []), .dat (vstr []), .dat (vstr []), .dat (vstr []), .dat (vint 0), .dat (vbool false), .dat (vbool false)]), (2, .box none 29 [.dat (vstr r6.1), .dat (vstr r6.2.1), .dat (vstr s.1), .dat (vstr s.2.1), .dat (vint s.2.2.1), .dat (vbool s.2.2.2.1), .dat (vbool s.2.2.2.2)])]) ([], [], (-1), false, false) H ⟨rfl, rfl, rfl, rfl, rfl, rfl, trivial⟩ ⟨rfl, rfl, trivial⟩ (fun _ _ => rfl) ?_ ?_
  · rintro ⟨c10, c11, c12, c13, c14⟩ H
    replace H : message_ParseCookie_E1 v1 r6 c10 c11 c12 c13 c14 = some r := H
    unfold message_ParseCookie_E1 at H
    refine awp_seq ?_
    refine awp_plain hN rfl ?_
    refine seq_run0 (stp_lss rfl rfl) ?_
    refine awp_seq ?_
    refine awp_cond _ rfl (fun h => (lt_t h).elim) (fun h => ?_)
    refine awp_exit ?_
    refine awp_seq ?_
    refine awp_seq ?_
    refine awp_plain hN rfl ?_
    refine seq_run1 (stp_loadA tyS29 rfl rfl rfl) rfl ?_
    obtain ⟨r19, h20, H⟩ := bnd H
    refine seq_run0 (stp_call (k_message_CookieText (S_api_Cookie.mk r6.1 r6.2.1 c10 c11 c12 c13 c14) r19 h20) ⟨.inl rfl, trivial⟩) ?_
    refine seq_run0 (stp_move (.dat _) rfl) ?_
    refine seq_run0 (stp_ext rfl rfl) ?_
    refine seq_run0 (stp_ext rfl rfl) ?_
    refine seq_run0 (stp_assign (.dat _) rfl) ?_
    refine seq_run0 (stp_assign (.dat _) rfl) ?_
    refine awp_seq ?_
    refine awp_plain hN rfl ?_
    refine seq_run0 (stp_move (.dat _) rfl) ?_
    refine seq_run0 (stp_neq rfl rfl) ?_
    refine seq_run0 (stp_move (.dat _) rfl) ?_
    refine seq_aF rfl rfl (fun hc => stp_move (.dat _) rfl) ?_
    refine seq_aF rfl rfl (fun hc => stp_move (.dat _) rfl) ?_
    refine seq_aF rfl rfl (fun hc => stp_sneq (cnd (c := (!(decide (r19.2 ≠ 0)))) hc) (cnd (c := (!(decide (r19.2 ≠ 0)))) hc)) ?_
    refine seq_run0 (stp_pick_or rfl rfl (fun hb => (cnd (c := (!(decide (r19.2 ≠ 0)))) (notI hb)))) ?_
    refine awp_cond _ rfl (fun h21 => ?_) (fun h21 => ?_)
    · replace H := ift h21 H
      refine awp_seq ?_
      refine awp_plain hN rfl ?_
      refine seq_run0 (stp_dat (u' := vagg (C_api_Cookie (S_api_Cookie.mk [] [] [] [] 0 false false))) (stp_build [] tyZ29 tyP29 rfl trivial) rfl) ?_
      refine seq_run2 (stp_storeW tyS29 rfl rfl rfl rfl) rfl ?_
      refine seq_run0 (stp_assign (.dat _) rfl) ?_
      refine awp_ret ?_
      cases H
      exact ⟨trivial, .inl ⟨_, _, _, C_api_Cookie (S_api_Cookie.mk [] [] [] [] 0 false false), rfl, rfl, rfl, rfl, tyS29⟩, .inl rfl, trivial⟩
    · replace H := iff_ h21 H
      refine awp_skip ?_
      refine awp_seq ?_
      refine awp_plain hN rfl ?_
      refine seq_run1 (stp_loadA tyS29 rfl rfl rfl) rfl ?_
      refine seq_run2 (stp_storeW tyS29 rfl rfl rfl rfl) rfl ?_
      refine seq_run0 (stp_assign (.dat _) rfl) ?_
      refine awp_ret ?_
      cases H
      exact ⟨trivial, .inl ⟨_, _, _, C_api_Cookie (S_api_Cookie.mk r6.1 r6.2.1 c10 c11 c12 c13 c14), rfl, rfl, rfl, rfl, tyS29⟩, .inl rfl, trivial⟩
  · rintro k15 x18 ⟨c10, c11, c12, c13, c14⟩ q16 h22 h23 H hq16
    replace H : message_ParseCookie_L1 k15 x18 c10 c11 c12 c13 c14 = some q16 := H
    unfold message_ParseCookie_L1 at H
    refine awp_seq ?_
    refine awp_plain hN rfl ?_
    refine seq_run0 (stp_lss rfl rfl) ?_
    refine awp_seq ?_
    refine awp_cond _ rfl (fun h => ?_) (fun h => (lt_f h22 h).elim)
    refine awp_skip ?_
    refine awp_joinE (ι := Bs × Bs × Int × Bool × Bool) (fun i => [(0, .dat (vstr v1)), (2, .ptr 1 0), (5, .ptr 2 0), (29, .dat (vlst (List.map C_string l8))), (30, .dat (vint (l8.length : Int))), (31, .dat (vint (k15 : Int)))]) (fun i => [(1, .box none 29 [.dat (vstr []), .dat (vstr []), .dat (vstr []), .dat (vstr []), .dat (vint 0), .dat (vbool false), .dat (vbool false)]), (2, .box none 29 [.dat (vstr r6.1), .dat (vstr r6.2.1), .dat (vstr i.1), .dat (vstr i.2.1), .dat (vint i.2.2.1), .dat (vbool i.2.2.2.1), .dat (vbool i.2.2.2.2)])]) (fun i => message_ParseCookie_J2 i.1 i.2.1 i.2.2.1 i.2.2.2.1 i.2.2.2.2 = some q16) (fun i => rfl) ?_ ?_
    · skip
      refine awp_block ?_
      refine awp_seq ?_
      refine awp_plain hN rfl ?_
      refine seq_run0 (t_idx tyE60 (fun _ => rfl) rfl rfl h23) ?_
      refine seq_run0 (stp_loadE1 tyS9 rfl (map_at h23) rfl) ?_
      refine seq_run0 (stp_assign (.dat _) rfl) ?_
      refine awp_seq ?_
      refine awp_plain hN rfl ?_
      refine seq_run0 (stp_move (.dat _) rfl) ?_
      obtain ⟨r24, h25, H⟩ := bnd H
      refine seq_run0 (stp_call (k_strings_Cut x18 [61] r24 h25) ⟨.inl rfl, .inl rfl, trivial⟩) ?_
      refine seq_run0 (stp_move (.dat _) rfl) ?_
      refine seq_run0 (stp_ext rfl rfl) ?_
      refine seq_run0 (stp_ext rfl rfl) ?_
      refine seq_run0 (stp_ext rfl rfl) ?_
      refine seq_run0 (stp_assign (.dat _) rfl) ?_
      refine seq_run0 (stp_assign (.dat _) rfl) ?_
      refine seq_run0 (stp_assign (.dat _) rfl) ?_
      refine awp_seq ?_
      refine awp_plain hN rfl ?_
      refine seq_run0 (stp_move (.dat _) rfl) ?_
      refine awp_block ?_
      refine awp_seq ?_
      refine awp_plain hN rfl ?_
      refine seq_run0 (stp_seql rfl rfl) ?_
      refine seq_run0 (stp_assign (.dat _) rfl) ?_
      refine awp_cond _ rfl (fun h26 => ?_) (fun h26 => ?_)
      · replace H := ift h26 H
        refine awp_plain hN rfl ?_
        refine seq_run0 (stp_move (.dat _) rfl) ?_
        refine seq_run0 (stp_fldP tyF29_2 rfl) ?_
        refine seq_run2 (stp_store1 tyS9 rfl rfl rfl rfl) rfl ?_
        exact ⟨(r24.2.1, c11, c12, c13, c14), H, ⟨rfl, rfl, rfl, rfl, rfl, rfl, trivial⟩, ⟨rfl, rfl, trivial⟩⟩
      · replace H := iff_ h26 H
        refine awp_seq ?_
        refine awp_plain hN rfl ?_
        refine seq_run0 (stp_seql rfl rfl) ?_
        refine seq_run0 (stp_assign (.dat _) rfl) ?_
        refine awp_cond _ rfl (fun h27 => ?_) (fun h27 => ?_)
        · replace H := ift h27 H
          refine awp_plain hN rfl ?_
          refine seq_run0 (stp_move (.dat _) rfl) ?_
          refine seq_run0 (stp_fldP tyF29_3 rfl) ?_
          refine seq_run2 (stp_store1 tyS9 rfl rfl rfl rfl) rfl ?_
          exact ⟨(c10, r24.2.1, c12, c13, c14), H, ⟨rfl, rfl, rfl, rfl, rfl, rfl, trivial⟩, ⟨rfl, rfl, trivial⟩⟩
        · replace H := iff_ h27 H
          refine awp_seq ?_
          refine awp_plain hN rfl ?_
          refine seq_run0 (stp_seql rfl rfl) ?_
          refine seq_run0 (stp_assign (.dat _) rfl) ?_
          refine awp_cond _ rfl (fun h28 => ?_) (fun h28 => ?_)
          · replace H := ift h28 H
            refine awp_seq ?_
            refine awp_plain hN rfl ?_
            refine seq_run0 (stp_move (.dat _) rfl) ?_
            obtain ⟨r29, h30, H⟩ := bnd H
            refine seq_run0 (stp_call (k_kit_Number r24.2.1 16 r29 h30) ⟨.inl rfl, .inl rfl, trivial⟩) ?_
            refine seq_run0 (stp_move (.dat _) rfl) ?_
            refine seq_run0 (stp_ext rfl rfl) ?_
            refine seq_run0 (stp_ext rfl rfl) ?_
            refine seq_run0 (stp_assign (.dat _) rfl) ?_
            refine seq_run0 (stp_assign (.dat _) rfl) ?_
            refine awp_seq ?_
            refine awp_seq ?_
            refine awp_plain hN rfl ?_
            refine seq_run0 (stp_move (.dat _) rfl) ?_
            refine seq_run0 (stp_not rfl) ?_
            refine awp_cond _ rfl (fun h31 => ?_) (fun h31 => ?_)
            · replace H := ift h31 H
              refine awp_seq ?_
              refine awp_plain hN rfl ?_
              refine seq_run0 (stp_dat (u' := vagg (C_api_Cookie (S_api_Cookie.mk [] [] [] [] 0 false false))) (stp_build [] tyZ29 tyP29 rfl trivial) rfl) ?_
              refine seq_run2 (stp_storeW tyS29 rfl rfl rfl rfl) rfl ?_
              refine seq_run0 (stp_assign (.dat _) rfl) ?_
              refine awp_ret ?_
              replace H := retl H hq16
              cases H
              exact ⟨trivial, .inl ⟨_, _, _, C_api_Cookie (S_api_Cookie.mk [] [] [] [] 0 false false), rfl, rfl, rfl, rfl, tyS29⟩, .inl rfl, trivial⟩
            · replace H := iff_ h31 H
              refine awp_skip ?_
              refine awp_plain hN rfl ?_
              refine seq_run0 (stp_move (.dat _) rfl) ?_
              refine seq_run0 (stp_fldP tyF29_4 rfl) ?_
              refine seq_run2 (stp_store1 tyS3 rfl rfl rfl rfl) rfl ?_
              exact ⟨(c10, c11, r29.1, c13, c14), H, ⟨rfl, rfl, rfl, rfl, rfl, rfl, trivial⟩, ⟨rfl, rfl, trivial⟩⟩
          · replace H := iff_ h28 H
            refine awp_seq ?_
            refine awp_plain hN rfl ?_
            refine seq_run0 (stp_seql rfl rfl) ?_
            refine seq_run0 (stp_assign (.dat _) rfl) ?_
            refine awp_cond _ rfl (fun h32 => ?_) (fun h32 => ?_)
            · replace H := ift h32 H
              refine awp_plain hN rfl ?_
              refine seq_run0 (stp_fldP tyF29_5 rfl) ?_
              refine seq_run2 (stp_store1 tyS4 rfl rfl rfl rfl) rfl ?_
              exact ⟨(c10, c11, c12, true, c14), H, ⟨rfl, rfl, rfl, rfl, rfl, rfl, trivial⟩, ⟨rfl, rfl, trivial⟩⟩
            · replace H := iff_ h32 H
              refine awp_seq ?_
              refine awp_plain hN rfl ?_
              refine seq_run0 (stp_seql rfl rfl) ?_
              refine seq_run0 (stp_assign (.dat _) rfl) ?_
              refine awp_cond _ rfl (fun h33 => ?_) (fun h33 => ?_)
              · replace H := ift h33 H
                refine awp_plain hN rfl ?_
                refine seq_run0 (stp_fldP tyF29_6 rfl) ?_
                refine seq_run2 (stp_store1 tyS4 rfl rfl rfl rfl) rfl ?_
                exact ⟨(c10, c11, c12, c13, true), H, ⟨rfl, rfl, rfl, rfl, rfl, rfl, trivial⟩, ⟨rfl, rfl, trivial⟩⟩
              · replace H := iff_ h33 H
                refine awp_skip ?_
                exact ⟨(c10, c11, c12, c13, c14), H, ⟨rfl, rfl, rfl, rfl, rfl, rfl, trivial⟩, ⟨rfl, rfl, trivial⟩⟩
    · rintro ⟨c34, c35, c36, c37, c38⟩ H
      replace H : message_ParseCookie_J2 c34 c35 c36 c37 c38 = some q16 := H
      unfold message_ParseCookie_J2 at H
      refine awp_plain hN rfl ?_
      refine seq_run0 (stp_add rfl rfl (by omega)) ?_
      refine seq_run0 (stp_move (.dat _) rfl) ?_
      exact ⟨_, backl H, ⟨rfl, rfl, rfl, rfl, rfl, rfl, trivial⟩, ⟨rfl, rfl, trivial⟩⟩
theorem k_gateref2_CookieOf (v1 : Bs) (r : (S_api_Cookie × Int)) (H : m_gateref2_CookieOf v1 = some r) : Fn Tryz.prog 13 [vstr v1] (resOf [vagg (C_api_Cookie r.1), vint r.2]) := by
  refine ⟨by kernel_rfl, pure_of (us := [vagg (C_api_Cookie r.1), vint r.2]) Tryz.func13 rfl rfl rfl rfl fun X hN => ?_⟩
  unfold m_gateref2_CookieOf at H
  refine awp_seq ?_
  refine awp_plain hN rfl ?_
  refine seq_run2 (stp_alloc 1 tyZ29 rfl) rfl ?_
  refine seq_run0 (stp_assign (.dat _) rfl) ?_
  refine awp_seq ?_
  refine awp_plain hN rfl ?_
  refine seq_run0 (stp_move (.dat _) rfl) ?_
  obtain ⟨r2, h3, H⟩ := bnd H
  refine seq_run0 (stp_call (k_strings_Split v1 [59, 32] r2 h3) ⟨.inl rfl, .inl rfl, trivial⟩) ?_
  refine seq_run0 (stp_assign (.dat _) rfl) ?_
  refine awp_seq ?_
  refine awp_plain hN rfl ?_
  refine seq_run2 (stp_alloc 2 tyZ29 rfl) rfl ?_
  refine awp_seq ?_
  refine awp_plain hN rfl ?_
  refine seq_run0 (stp_move (.dat _) rfl) ?_
  obtain ⟨x4, h5, H⟩ := bnd H
  refine seq_run0 (t_idx tyE60 (fun _ => rfl) rfl rfl h5) ?_
  refine seq_run0 (stp_loadE1 tyS9 rfl (map_at h5) rfl) ?_
  obtain ⟨r6, h7, H⟩ := bnd H
  refine seq_run0 (stp_call (k_strings_Cut x4 [61] r6 h7) ⟨.inl rfl, .inl rfl, trivial⟩) ?_
  refine seq_run0 (stp_move (.dat _) rfl) ?_
  refine seq_run0 (stp_ext rfl rfl) ?_
  refine seq_run0 (stp_ext rfl rfl) ?_
  refine seq_run0 (stp_ext rfl rfl) ?_
  refine seq_run0 (stp_fldP tyF29_0 rfl) ?_
  refine seq_run2 (stp_store1 tyS9 rfl rfl rfl rfl) rfl ?_
  refine seq_run0 (stp_fldP tyF29_1 rfl) ?_
  refine seq_run2 (stp_store1 tyS9 rfl rfl rfl rfl) rfl ?_
  refine awp_seq ?_
  refine awp_plain hN rfl ?_
  refine seq_run0 (stp_fldP tyF29_4 rfl) ?_
  refine seq_run2 (stp_store1 tyS3 rfl rfl rfl rfl) rfl ?_
  refine awp_seq ?_
  refine awp_seq ?_
  refine awp_plain hN rfl ?_
  refine seq_run0 (stp_move (.dat _) rfl) ?_
  obtain ⟨l8, h9, H⟩ := bnd H
  refine seq_run0 (t_subL tyE60 (fun _ => rfl) rfl rfl rfl h9) ?_
  refine seq_run0 (t_len tyU60 rfl) ?_
  refine seq_run0 (stp_move (.dat _) rfl) ?_
  refine awp_block ?_
  obtain ⟨h17, H⟩ := gif H
  refine awp_forL (fun (k15 : Nat) (s : Bs × Bs × Int × Bool × Bool) => [(0, .dat (vstr v1)), (2, .ptr 1 0), (5, .ptr 2 0), (25, .dat (vlst (List.map C_string l8))), (26, .dat (vint (l8.length : Int))), (27, .dat (vint (k15 : Int)))]) (fun (k15 : Nat) (s : Bs × Bs × Int × Bool × Bool) => [(1, .box none 29 [.dat (vstr []), .dat (vstr []), .dat (vstr []), .dat (vstr []), .dat (vint 0), .dat (vbool false), .dat (vbool false)]), (2, .box none 29 [.dat (vstr r6.1), .dat (vstr r6.2.1), .dat (vstr s.1), .dat (vstr s.2.1), .dat (vint s.2.2.1), .dat (vbool s.2.2.2.1), .dat (vbool s.2.2.2.2)])]) ([], [], (-1), false, false) H ⟨rfl, rfl, rfl, rfl, rfl, rfl, trivial⟩ ⟨rfl, rfl, trivial⟩ (fun _ _ => rfl) ?_ ?_
  · rintro ⟨c10, c11, c12, c13, c14⟩ H
    replace H : gateref2_CookieOf_E1 v1 r6 c10 c11 c12 c13 c14 = some r := H
    unfold gateref2_CookieOf_E1 at H
    refine awp_seq ?_
    refine awp_plain hN rfl ?_
    refine seq_run0 (stp_lss rfl rfl) ?_
    refine awp_seq ?_
    refine awp_cond _ rfl (fun h => (lt_t h).elim) (fun h => ?_)
    refine awp_exit ?_
    refine awp_seq ?_
    refine awp_joinE (ι := Bool) (fun i => [(2, .ptr 1 0), (5, .ptr 2 0), (69, .dat (vbool i))]) (fun i => [(1, .box none 29 [.dat (vstr []), .dat (vstr []), .dat (vstr []), .dat (vstr []), .dat (vint 0), .dat (vbool false), .dat (vbool false)]), (2, .box none 29 [.dat (vstr r6.1), .dat (vstr r6.2.1), .dat (vstr c10), .dat (vstr c11), .dat (vint c12), .dat (vbool c13), .dat (vbool c14)])]) (fun i => gateref2_CookieOf_J2 r6 c10 c11 c12 c13 c14 i = some r) (fun i => rfl) ?_ ?_
    · skip
      refine awp_plain hN rfl ?_
      refine seq_run1 (stp_loadA tyS29 rfl rfl rfl) rfl ?_
      obtain ⟨r19, h20, H⟩ := bnd H
      refine seq_run0 (stp_call (k_gateref2_CookieFault (S_api_Cookie.mk r6.1 r6.2.1 c10 c11 c12 c13 c14) r19 h20) ⟨.inl rfl, trivial⟩) ?_
      refine seq_run0 (stp_neq rfl rfl) ?_
      refine seq_run0 (stp_move (.dat _) rfl) ?_
      refine seq_split (j := 3) rfl rfl (fun h21 => ?_) (fun h21 => ?_) rfl
      · have h22 := un3 h21
        replace H := iff_ h22 H
        refine seq_g1 rfl rfl h21 (stp_loadA tyS29 rfl rfl rfl) rfl ?_
        obtain ⟨r23, h24, H⟩ := bnd H
        refine seq_g0 rfl rfl h21 (stp_call (k_gateref2_CookieLine (S_api_Cookie.mk r6.1 r6.2.1 c10 c11 c12 c13 c14) r23 h24) ⟨.inl rfl, trivial⟩) ?_
        refine seq_g0 rfl rfl h21 (stp_move (.dat _) rfl) ?_
        refine seq_g0 rfl rfl h21 (stp_sneq rfl rfl) ?_
        refine seq_run0 (stp_pick_f rfl (bFF h22) rfl) ?_
        exact ⟨decide (r23 ≠ v1), H, ⟨rfl, rfl, rfl, trivial⟩, ⟨rfl, rfl, trivial⟩⟩
      · have h25 := un4 h21
        replace H := ift h25 H
        refine seq_skip rfl rfl h21 ?_
        refine seq_skip rfl rfl h21 ?_
        refine seq_skip rfl rfl h21 ?_
        refine seq_skip rfl rfl h21 ?_
        refine seq_run0 (stp_pick_t rfl (bTT h25) rfl) ?_
        exact ⟨true, H, ⟨rfl, rfl, rfl, trivial⟩, ⟨rfl, rfl, trivial⟩⟩
    · rintro v26 H
      replace H : gateref2_CookieOf_J2 r6 c10 c11 c12 c13 c14 v26 = some r := H
      unfold gateref2_CookieOf_J2 at H
      refine awp_cond _ rfl (fun h27 => ?_) (fun h27 => ?_)
      · replace H := ift h27 H
        refine awp_seq ?_
        refine awp_plain hN rfl ?_
        refine seq_run0 (stp_dat (u' := vagg (C_api_Cookie (S_api_Cookie.mk [] [] [] [] 0 false false))) (stp_build [] tyZ29 tyP29 rfl trivial) rfl) ?_
        refine seq_run2 (stp_storeW tyS29 rfl rfl rfl rfl) rfl ?_
        refine seq_run0 (stp_assign (.dat _) rfl) ?_
        refine awp_ret ?_
        cases H
        exact ⟨trivial, .inl ⟨_, _, _, C_api_Cookie (S_api_Cookie.mk [] [] [] [] 0 false false), rfl, rfl, rfl, rfl, tyS29⟩, .inl rfl, trivial⟩
      · replace H := iff_ h27 H
        refine awp_skip ?_
        refine awp_seq ?_
        refine awp_plain hN rfl ?_
        refine seq_run1 (stp_loadA tyS29 rfl rfl rfl) rfl ?_
        refine seq_run2 (stp_storeW tyS29 rfl rfl rfl rfl) rfl ?_
        refine seq_run0 (stp_assign (.dat _) rfl) ?_
        refine awp_ret ?_
        cases H
        exact ⟨trivial, .inl ⟨_, _, _, C_api_Cookie (S_api_Cookie.mk r6.1 r6.2.1 c10 c11 c12 c13 c14), rfl, rfl, rfl, rfl, tyS29⟩, .inl rfl, trivial⟩
  · rintro k15 x18 ⟨c10, c11, c12, c13, c14⟩ q16 h28 h29 H hq16
    replace H : gateref2_CookieOf_L1 k15 x18 c10 c11 c12 c13 c14 = some q16 := H
    unfold gateref2_CookieOf_L1 at H
    refine awp_seq ?_
    refine awp_plain hN rfl ?_
    refine seq_run0 (stp_lss rfl rfl) ?_
    refine awp_seq ?_
    refine awp_cond _ rfl (fun h => ?_) (fun h => (lt_f h28 h).elim)
    refine awp_skip ?_
    refine awp_joinE (ι := Bs × Bs × Int × Bool × Bool) (fun i => [(0, .dat (vstr v1)), (2, .ptr 1 0), (5, .ptr 2 0), (25, .dat (vlst (List.map C_string l8))), (26, .dat (vint (l8.length : Int))), (27, .dat (vint (k15 : Int)))]) (fun i => [(1, .box none 29 [.dat (vstr []), .dat (vstr []), .dat (vstr []), .dat (vstr []), .dat (vint 0), .dat (vbool false), .dat (vbool false)]), (2, .box none 29 [.dat (vstr r6.1), .dat (vstr r6.2.1), .dat (vstr i.1), .dat (vstr i.2.1), .dat (vint i.2.2.1), .dat (vbool i.2.2.2.1), .dat (vbool i.2.2.2.2)])]) (fun i => gateref2_CookieOf_J3 i.1 i.2.1 i.2.2.1 i.2.2.2.1 i.2.2.2.2 = some q16) (fun i => rfl) ?_ ?_
    · skip
      refine awp_block ?_
      refine awp_seq ?_
      refine awp_plain hN rfl ?_
      refine seq_run0 (t_idx tyE60 (fun _ => rfl) rfl rfl h29) ?_
      refine seq_run0 (stp_loadE1 tyS9 rfl (map_at h29) rfl) ?_
      refine seq_run0 (stp_assign (.dat _) rfl) ?_
      refine awp_seq ?_
      refine awp_plain hN rfl ?_
      refine seq_run0 (stp_move (.dat _) rfl) ?_
      obtain ⟨r30, h31, H⟩ := bnd H
      refine seq_run0 (stp_call (k_strings_Cut x18 [61] r30 h31) ⟨.inl rfl, .inl rfl, trivial⟩) ?_
      refine seq_run0 (stp_move (.dat _) rfl) ?_
      refine seq_run0 (stp_ext rfl rfl) ?_
      refine seq_run0 (stp_ext rfl rfl) ?_
      refine seq_run0 (stp_ext rfl rfl) ?_
      refine seq_run0 (stp_assign (.dat _) rfl) ?_
      refine seq_run0 (stp_assign (.dat _) rfl) ?_
      refine seq_run0 (stp_assign (.dat _) rfl) ?_
      refine awp_seq ?_
      refine awp_plain hN rfl ?_
      refine seq_run0 (stp_move (.dat _) rfl) ?_
      refine awp_block ?_
      refine awp_seq ?_
      refine awp_plain hN rfl ?_
      refine seq_run0 (stp_seql rfl rfl) ?_
      refine seq_run0 (stp_assign (.dat _) rfl) ?_
      refine awp_cond _ rfl (fun h32 => ?_) (fun h32 => ?_)
      · replace H := ift h32 H
        refine awp_plain hN rfl ?_
        refine seq_run0 (stp_move (.dat _) rfl) ?_
        refine seq_run0 (stp_fldP tyF29_2 rfl) ?_
        refine seq_run2 (stp_store1 tyS9 rfl rfl rfl rfl) rfl ?_
        exact ⟨(r30.2.1, c11, c12, c13, c14), H, ⟨rfl, rfl, rfl, rfl, rfl, rfl, trivial⟩, ⟨rfl, rfl, trivial⟩⟩
      · replace H := iff_ h32 H
        refine awp_seq ?_
        refine awp_plain hN rfl ?_
        refine seq_run0 (stp_seql rfl rfl) ?_
        refine seq_run0 (stp_assign (.dat _) rfl) ?_
        refine awp_cond _ rfl (fun h33 => ?_) (fun h33 => ?_)
        · replace H := ift h33 H
          refine awp_plain hN rfl ?_
          refine seq_run0 (stp_move (.dat _) rfl) ?_
          refine seq_run0 (stp_fldP tyF29_3 rfl) ?_
          refine seq_run2 (stp_store1 tyS9 rfl rfl rfl rfl) rfl ?_
          exact ⟨(c10, r30.2.1, c12, c13, c14), H, ⟨rfl, rfl, rfl, rfl, rfl, rfl, trivial⟩, ⟨rfl, rfl, trivial⟩⟩
        · replace H := iff_ h33 H
          refine awp_seq ?_
          refine awp_plain hN rfl ?_
          refine seq_run0 (stp_seql rfl rfl) ?_
          refine seq_run0 (stp_assign (.dat _) rfl) ?_
          refine awp_cond _ rfl (fun h34 => ?_) (fun h34 => ?_)
          · replace H := ift h34 H
            refine awp_plain hN rfl ?_
            refine seq_run0 (stp_move (.dat _) rfl) ?_
            obtain ⟨r35, h36, H⟩ := bnd H
            refine seq_run0 (stp_call (k_gateref2_Number r30.2.1 16 r35 h36) ⟨.inl rfl, .inl rfl, trivial⟩) ?_
            refine seq_run0 (stp_move (.dat _) rfl) ?_
            refine seq_run0 (stp_ext rfl rfl) ?_
            refine seq_run0 (stp_ext rfl rfl) ?_
            refine seq_run0 (stp_fldP tyF29_4 rfl) ?_
            refine seq_run2 (stp_store1 tyS3 rfl rfl rfl rfl) rfl ?_
            exact ⟨(c10, c11, r35.1, c13, c14), H, ⟨rfl, rfl, rfl, rfl, rfl, rfl, trivial⟩, ⟨rfl, rfl, trivial⟩⟩
          · replace H := iff_ h34 H
            refine awp_seq ?_
            refine awp_plain hN rfl ?_
            refine seq_run0 (stp_seql rfl rfl) ?_
            refine seq_run0 (stp_assign (.dat _) rfl) ?_
            refine awp_cond _ rfl (fun h37 => ?_) (fun h37 => ?_)
            · replace H := ift h37 H
              refine awp_plain hN rfl ?_
              refine seq_run0 (stp_fldP tyF29_5 rfl) ?_
              refine seq_run2 (stp_store1 tyS4 rfl rfl rfl rfl) rfl ?_
              exact ⟨(c10, c11, c12, true, c14), H, ⟨rfl, rfl, rfl, rfl, rfl, rfl, trivial⟩, ⟨rfl, rfl, trivial⟩⟩
            · replace H := iff_ h37 H
              refine awp_seq ?_
              refine awp_plain hN rfl ?_
              refine seq_run0 (stp_seql rfl rfl) ?_
              refine seq_run0 (stp_assign (.dat _) rfl) ?_
              refine awp_cond _ rfl (fun h38 => ?_) (fun h38 => ?_)
              · replace H := ift h38 H
                refine awp_plain hN rfl ?_
                refine seq_run0 (stp_fldP tyF29_6 rfl) ?_
                refine seq_run2 (stp_store1 tyS4 rfl rfl rfl rfl) rfl ?_
                exact ⟨(c10, c11, c12, c13, true), H, ⟨rfl, rfl, rfl, rfl, rfl, rfl, trivial⟩, ⟨rfl, rfl, trivial⟩⟩
              · replace H := iff_ h38 H
                refine awp_skip ?_
                exact ⟨(c10, c11, c12, c13, c14), H, ⟨rfl, rfl, rfl, rfl, rfl, rfl, trivial⟩, ⟨rfl, rfl, trivial⟩⟩
    · rintro ⟨c39, c40, c41, c42, c43⟩ H
      replace H : gateref2_CookieOf_J3 c39 c40 c41 c42 c43 = some q16 := H
      unfold gateref2_CookieOf_J3 at H
      refine awp_plain hN rfl ?_
      refine seq_run0 (stp_add rfl rfl (by omega)) ?_
      refine seq_run0 (stp_move (.dat _) rfl) ?_
      exact ⟨_, backl H, ⟨rfl, rfl, rfl, rfl, rfl, rfl, trivial⟩, ⟨rfl, rfl, trivial⟩⟩
theorem k_slices_Equal_L_api_Pair_api_Pair_ (s1 : (List S_api_Pair)) (s2 : (List S_api_Pair)) (r : (Bool)) (H : m_slices_Equal_L_api_Pair_api_Pair_ s1 s2 = some r) : Fn Tryz.prog 14 [vlst (List.map C_api_Pair s1), vlst (List.map C_api_Pair s2)] (resOf [vbool r]) := by
  refine ⟨by kernel_rfl, pure_of (us := [vbool r]) Tryz.func14 rfl rfl rfl rfl fun X hN => ?_⟩
  unfold m_slices_Equal_L_api_Pair_api_Pair_ at H
  refine awp_seq ?_
  refine awp_plain hN rfl ?_
  refine seq_run0 (stp_assign (.dat _) rfl) ?_
  refine awp_seq ?_
  refine awp_seq ?_
  refine awp_plain hN rfl ?_
  refine seq_run0 (stp_move (.dat _) rfl) ?_
  refine seq_run0 (t_len tyU32 rfl) ?_
  refine seq_run0 (stp_move (.dat _) rfl) ?_
  refine seq_run0 (t_len tyU32 rfl) ?_
  refine seq_run0 (stp_neq rfl rfl) ?_
  refine awp_cond _ rfl (fun h3 => ?_) (fun h3 => ?_)
  · replace H := ift h3 H
    refine awp_seq ?_
    refine awp_plain hN rfl ?_
    refine seq_run0 (stp_assign (.dat _) rfl) ?_
    refine awp_ret ?_
    cases H
    exact ⟨trivial, .inl rfl, trivial⟩
  · replace H := iff_ h3 H
    refine awp_skip ?_
    refine awp_seq ?_
    refine awp_seq ?_
    refine awp_plain hN rfl ?_
    refine seq_run0 (stp_move (.dat _) rfl) ?_
    refine seq_run0 (t_len tyU32 rfl) ?_
    refine seq_run0 (stp_move (.dat _) rfl) ?_
    refine awp_block ?_
    obtain ⟨h6, H⟩ := gif H
    refine awp_forL (fun (k4 : Nat) (s : Unit) => [(0, .dat (vlst (List.map C_api_Pair s1))), (1, .dat (vlst (List.map C_api_Pair s2))), (12, .dat (vint (s1.length : Int))), (13, .dat (vint (k4 : Int)))]) (fun (k4 : Nat) (s : Unit) => []) () H ⟨rfl, rfl, rfl, rfl, trivial⟩ trivial (fun _ _ => rfl) ?_ ?_
    · rintro ⟨⟩ H
      replace H : slices_Equal_L_api_Pair_api_Pair__E1 = some r := H
      unfold slices_Equal_L_api_Pair_api_Pair__E1 at H
      refine awp_seq ?_
      refine awp_plain hN rfl ?_
      refine seq_run0 (stp_lss rfl rfl) ?_
      refine awp_seq ?_
      refine awp_cond _ rfl (fun h => (lt_t h).elim) (fun h => ?_)
      refine awp_exit ?_
      refine awp_seq ?_
      refine awp_plain hN rfl ?_
      refine seq_run0 (stp_assign (.dat _) rfl) ?_
      refine awp_ret ?_
      cases H
      exact ⟨trivial, .inl rfl, trivial⟩
    · rintro k4 x7 ⟨⟩ q5 h8 h9 H hq5
      replace H : slices_Equal_L_api_Pair_api_Pair__L1 s2 k4 x7 = some q5 := H
      unfold slices_Equal_L_api_Pair_api_Pair__L1 at H
      refine awp_seq ?_
      refine awp_plain hN rfl ?_
      refine seq_run0 (stp_lss rfl rfl) ?_
      refine awp_seq ?_
      refine awp_cond _ rfl (fun h => ?_) (fun h => (lt_f h8 h).elim)
      refine awp_skip ?_
      refine awp_seq ?_
      refine awp_block ?_
      refine awp_seq ?_
      refine awp_plain hN rfl ?_
      refine seq_run0 (stp_move (.dat _) rfl) ?_
      refine seq_run0 (stp_assign (.dat _) rfl) ?_
      refine awp_seq ?_
      refine awp_draw mixed hN rfl rfl ?_
      refine seq_run0 (stp_move (.dat _) rfl) ?_
      refine seq_run0 (stp_move (.dat _) rfl) ?_
      refine seq_run0 (t_idx tyE32 (fun _ => rfl) rfl rfl h9) ?_
      refine seq_run0 (stp_loadEA tyS44 rfl (map_at h9) rfl) ?_
      refine seq_run0 (stp_move (.dat _) rfl) ?_
      refine seq_run0 (stp_move (.dat _) rfl) ?_
      obtain ⟨x10, h11, H⟩ := bnd H
      refine seq_run0 (t_idx tyE32 (fun _ => rfl) rfl rfl h11) ?_
      refine seq_run0 (stp_loadEA tyS44 rfl (map_at h11) rfl) ?_
      refine seq_run0 (stp_aneq [_, _] [_, _] tyQ44 rfl rfl rfl) ?_
      refine ⟨rfl, ?_⟩
      refine awp_cond _ rfl (fun h12 => ?_) (fun h12 => ?_)
      · replace H := ift h12 H
        refine awp_seq ?_
        refine awp_plain hN rfl ?_
        refine seq_run0 (stp_assign (.dat _) rfl) ?_
        refine awp_ret ?_
        replace H := retl H hq5
        cases H
        exact ⟨trivial, .inl rfl, trivial⟩
      · replace H := iff_ h12 H
        refine awp_skip ?_
        refine awp_plain hN rfl ?_
        refine seq_run0 (stp_add rfl rfl (by omega)) ?_
        refine seq_run0 (stp_move (.dat _) rfl) ?_
        exact ⟨_, backl H, ⟨rfl, rfl, rfl, rfl, trivial⟩, trivial⟩
theorem kb_strings_Builder_WriteByte (l1 : (List Int)) (c2 : Int) (r : (Int × (List Int))) (H : m_strings_Builder_WriteByte l1 c2 = some r) : FnG Tryz.prog 58 [.ptr 0 0, .dat (vval (.int .u8 c2))] [(0, .box (some 0) 78 [.nptr 0, .row 1 l1.length]), (1, .row 5 1 (List.map C_uint8 l1))] (.dat (resOf [verr r.1])) [(0, .box (some 0) 78 [.nptr 0, .row 900 r.2.length]), (900, .row 5 1 (List.map C_uint8 r.2))] := by
  refine fnG_of (by kernel_rfl) Tryz.func58 rfl rfl rfl rfl fun X A hN => ?_
  refine awp_cv ?_
  unfold m_strings_Builder_WriteByte at H
  refine awp_seq ?_
  refine awp_plain hN rfl ?_
  refine seq_run0 (stp_assign (.dat _) rfl) ?_
  refine awp_seq ?_
  refine awp_plain hN rfl ?_
  refine seq_run0 (stp_move (.ptr _ _) rfl) ?_
  refine seq_run2 (stp_cc cc_prog rfl) rfl ?_
  refine awp_seq ?_
  refine awp_plain hN rfl ?_
  refine seq_run0 (stp_move (.ptr _ _) rfl) ?_
  refine seq_run0 (stp_move (.ptr _ _) rfl) ?_
  refine seq_run0 (stp_nilP rfl) ?_
  refine seq_run0 (stp_fldP tyF78_1 rfl) ?_
  refine seq_run1 (stp_load1 tyS76 rfl rfl) rfl ?_
  refine seq_run0 (stp_move (.dat _) rfl) ?_
  refine seq_run0 (stp_dat (u' := vlst (List.map C_uint8 [c2])) (stp_lit [[_]] tyL76 ⟨rfl, .inl ⟨_, rfl, rfl, rfl⟩, rfl, trivial⟩ rfl rfl) rfl) ?_
  obtain ⟨h3, H⟩ := gif H
  refine seq_run2 (t_app tyL76 (fun _ => rfl) rfl rfl rfl ⟨by simp, by first | (simp; done) | simpa using h3⟩ rfl) rfl ?_
  refine seq_run0 (stp_nilP rfl) ?_
  refine seq_run0 (stp_fldP tyF78_1 rfl) ?_
  refine seq_run4 (stp_storeS tyS76 rfl rfl (by rw [List.length_map]) rfl) rfl rfl ?_
  refine awp_seq ?_
  refine awp_plain hN rfl ?_
  refine seq_run0 (stp_assign (.dat _) rfl) ?_
  refine awp_ret ?_
  cases H
  show Cv _ _ _ _
  refine cv_ren (rn [(1, 900)]) [(4, .dat (verr 0))] [(0, .box (some (A.bl 0)) 78 [.nptr 0, .row 1 ((l1 ++ [c2]).length)]), (1, .row 5 1 (List.map C_uint8 (l1 ++ [c2])))] ⟨rfl, trivial⟩ ⟨rfl, rfl, trivial⟩ rfl rfl ?_
  exact ⟨trivial, [(4, .dat (verr 0))], ⟨rfl, trivial⟩, ⟨rfl, rfl, trivial⟩, rfl, .inl ⟨[verr 0], ⟨rfl, trivial⟩, rfl⟩⟩
theorem k_message_isHex (c1 : Int) (r : (Bool)) (H : m_message_isHex c1 = some r) : Fn Tryz.prog 143 [vval (.int .u8 c1)] (resOf [vbool r]) := by
  refine ⟨by kernel_rfl, pure_of (us := [vbool r]) Tryz.func143 rfl rfl rfl rfl fun X hN => ?_⟩
  unfold m_message_isHex at H
  refine awp_seq ?_
  refine awp_plain hN rfl ?_
  refine seq_run0 (stp_assign (.dat _) rfl) ?_
  refine awp_seq ?_
  refine awp_plain hN rfl ?_
  refine seq_run0 (stp_move (.dat _) rfl) ?_
  obtain ⟨r2, h3, H⟩ := bnd H
  refine seq_run0 (stp_call (k_message_isDigit c1 r2 h3) ⟨.inl rfl, trivial⟩) ?_
  refine seq_run0 (stp_move (.dat _) rfl) ?_
  refine seq_aF rfl rfl (fun hc => stp_move (.dat _) rfl) ?_
  refine seq_aF rfl rfl (fun hc => stp_geq (cnd (c := (!r2)) hc) rfl) ?_
  refine seq_aF rfl rfl (fun hc => stp_move (.dat _) (cnd (c := (!r2)) hc)) ?_
  refine seq_bT rfl rfl (fun hc => stp_move (.dat _) rfl) ?_
  refine seq_bT rfl rfl (fun hc => stp_leq (cnd (c := ((!r2) && (decide (97 ≤ c1)))) hc) rfl) ?_
  refine seq_aF rfl rfl (fun hc => stp_pick_and (cnd (c := (!r2)) hc) (fun hb => (cnd (c := ((!r2) && (decide (97 ≤ c1)))) (andI hc hb))) rfl) ?_
  refine seq_run0 (stp_pick_or rfl rfl (fun hb => (cnd (c := (!r2)) (notI hb)))) ?_
  refine seq_run0 (stp_move (.dat _) rfl) ?_
  refine seq_aF rfl rfl (fun hc => stp_move (.dat _) rfl) ?_
  refine seq_aF rfl rfl (fun hc => stp_geq (cnd (c := (!(r2 || ((decide (97 ≤ c1)) && (decide (c1 ≤ 102)))))) hc) rfl) ?_
  refine seq_aF rfl rfl (fun hc => stp_move (.dat _) (cnd (c := (!(r2 || ((decide (97 ≤ c1)) && (decide (c1 ≤ 102)))))) hc)) ?_
  refine seq_bT rfl rfl (fun hc => stp_move (.dat _) rfl) ?_
  refine seq_bT rfl rfl (fun hc => stp_leq (cnd (c := ((!(r2 || ((decide (97 ≤ c1)) && (decide (c1 ≤ 102))))) && (decide (65 ≤ c1)))) hc) rfl) ?_
  refine seq_aF rfl rfl (fun hc => stp_pick_and (cnd (c := (!(r2 || ((decide (97 ≤ c1)) && (decide (c1 ≤ 102)))))) hc) (fun hb => (cnd (c := ((!(r2 || ((decide (97 ≤ c1)) && (decide (c1 ≤ 102))))) && (decide (65 ≤ c1)))) (andI hc hb))) rfl) ?_
  refine seq_run0 (stp_pick_or rfl rfl (fun hb => (cnd (c := (!(r2 || ((decide (97 ≤ c1)) && (decide (c1 ≤ 102)))))) (notI hb)))) ?_
  refine seq_run0 (stp_assign (.dat _) rfl) ?_
  refine awp_ret ?_
  cases H
  exact ⟨trivial, .inl rfl, trivial⟩
theorem k_message_isUnit (s1 : Bs) (v2 : Int) (r : (Bool)) (H : m_message_isUnit s1 v2 = some r) : Fn Tryz.prog 113 [vstr s1, vint v2] (resOf [vbool r]) := by
  refine ⟨by kernel_rfl, pure_of (us := [vbool r]) Tryz.func113 rfl rfl rfl rfl fun X hN => ?_⟩
  unfold m_message_isUnit at H
  refine awp_seq ?_
  refine awp_plain hN rfl ?_
  refine seq_run0 (stp_assign (.dat _) rfl) ?_
  refine awp_joinE (ι := Bool) (fun i => [(4, .dat (vbool i))]) (fun i => []) (fun i => message_isUnit_J1 i = some r) (fun i => rfl) ?_ ?_
  · skip
    refine awp_plain hN rfl ?_
    refine seq_run0 (stp_move (.dat _) rfl) ?_
    refine seq_run0 (stp_wrap _ rfl rfl (.inl ⟨rfl, rfl⟩)) ?_
    refine seq_run0 (stp_move (.dat _) rfl) ?_
    refine seq_run0 (stp_len_str tyU9 rfl) ?_
    refine seq_run0 (stp_lss rfl rfl) ?_
    refine seq_run0 (stp_move (.dat _) rfl) ?_
    refine seq_split (j := 5) rfl rfl (fun h3 => ?_) (fun h3 => ?_) rfl
    · have h4 := un1 h3
      replace H := ift h4 H
      refine seq_g0 rfl rfl h3 (stp_move (.dat _) rfl) ?_
      refine seq_g0 rfl rfl h3 (stp_move (.dat _) rfl) ?_
      refine seq_g0 rfl rfl h3 (stp_wrap _ rfl rfl (.inl ⟨rfl, rfl⟩)) ?_
      obtain ⟨x5, h6, H⟩ := bnd H
      refine seq_g0 rfl rfl h3 (t_byteI tyU9 rfl rfl h6) ?_
      obtain ⟨r7, h8, H⟩ := bnd H
      refine seq_g0 rfl rfl h3 (stp_call (k_message_isHex (x5.toNat : Int) r7 h8) ⟨.inl rfl, trivial⟩) ?_
      refine seq_run0 (stp_pick_t rfl (bTT h4) rfl) ?_
      refine seq_run0 (stp_move (.dat _) rfl) ?_
      refine seq_split (j := 12) rfl rfl (fun h9 => ?_) (fun h9 => ?_) rfl
      · have h10 := un1 h9
        replace H := ift h10 H
        refine seq_g0 rfl rfl h9 (stp_move (.dat _) rfl) ?_
        refine seq_g0 rfl rfl h9 (stp_move (.dat _) rfl) ?_
        refine seq_g0 rfl rfl h9 (stp_wrap _ rfl rfl (.inl ⟨rfl, rfl⟩)) ?_
        obtain ⟨x11, h12, H⟩ := bnd H
        refine seq_g0 rfl rfl h9 (t_byteI tyU9 rfl rfl h12) ?_
        obtain ⟨r13, h14, H⟩ := bnd H
        refine seq_g0 rfl rfl h9 (stp_call (k_message_isHex (x11.toNat : Int) r13 h14) ⟨.inl rfl, trivial⟩) ?_
        refine seq_run0 (stp_pick_t rfl (bTT h10) rfl) ?_
        refine seq_run0 (stp_assign (.dat _) rfl) ?_
        exact ⟨r13, H, ⟨rfl, trivial⟩, trivial⟩
      · have h15 := un2 h9
        replace H := iff_ h15 H
        refine seq_skip rfl rfl h9 ?_
        refine seq_skip rfl rfl h9 ?_
        refine seq_skip rfl rfl h9 ?_
        refine seq_skip rfl rfl h9 ?_
        refine seq_skip rfl rfl h9 ?_
        refine seq_run0 (stp_pick_f rfl (bFF h15) rfl) ?_
        refine seq_run0 (stp_assign (.dat _) rfl) ?_
        exact ⟨false, H, ⟨rfl, trivial⟩, trivial⟩
    · have h16 := un2 h3
      replace H := iff_ h16 H
      refine seq_skip rfl rfl h3 ?_
      refine seq_skip rfl rfl h3 ?_
      refine seq_skip rfl rfl h3 ?_
      refine seq_skip rfl rfl h3 ?_
      refine seq_skip rfl rfl h3 ?_
      refine seq_run0 (stp_pick_f rfl (bFF h16) rfl) ?_
      refine seq_run0 (stp_move (.dat _) rfl) ?_
      refine seq_skip rfl rfl rfl ?_
      refine seq_skip rfl rfl rfl ?_
      refine seq_skip rfl rfl rfl ?_
      refine seq_skip rfl rfl rfl ?_
      refine seq_skip rfl rfl rfl ?_
      refine seq_run0 (stp_pick_f rfl rfl rfl) ?_
      refine seq_run0 (stp_assign (.dat _) rfl) ?_
      exact ⟨false, H, ⟨rfl, trivial⟩, trivial⟩
  · rintro v17 H
    replace H : message_isUnit_J1 v17 = some r := H
    unfold message_isUnit_J1 at H
    refine awp_ret ?_
    cases H
    exact ⟨trivial, .inl rfl, trivial⟩
end Go.Proofs.YthodoodnkohdaaaGreatDoor
