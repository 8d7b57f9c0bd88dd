/- Walks along the models. Printed by a program. -/
import Derived.Test.YtmhghppkbppbjaaGreatDoorYqw1
namespace Go.Proofs.YtmhghppkbppbjaaGreatDoor
open Go.RowKit
set_option linter.unusedVariables false
set_option maxRecDepth 20000
theorem k_message_decoded (s1 : Bs) (plus2 : Bool) (r : (Bs × Bool)) (H : m_message_decoded s1 plus2 = some r) : Fn Tryz.prog 42 [vstr s1, vbool plus2] (resOf [vstr r.1, vbool r.2]) := by
  refine ⟨by kernel_rfl, pure_of (us := [vstr r.1, vbool r.2]) Tryz.func42 rfl rfl rfl rfl fun X hN => ?_⟩
  unfold m_message_decoded at H
  refine awp_seq ?_
  refine awp_plain hN rfl ?_
  refine seq_run0 (stp_assign (.dat _) rfl) ?_
  refine seq_run0 (stp_assign (.dat _) rfl) ?_
  refine awp_seq ?_
  refine awp_plain hN rfl ?_
  refine seq_run2 (stp_alloc 1 tyZ124 rfl) rfl ?_
  refine awp_wkB 1 0 (.nptr 1) rfl rfl nptr_nil ?_
  refine awp_nilrowB 1 1 2 5 1 rfl rfl rfl rfl ?_
  refine awp_joinE (ι := (List Int)) (fun i => [(6, .ptr 1 0)]) (fun i => [(1, .box none 124 [.nptr 1, .row 2 i.length]), (2, .row 5 1 (List.map C_uint8 i))]) (fun i => message_decoded_J1 i = some r) (fun i => rfl) ?_ ?_
  · refine awp_cv ?_
    refine awp_seq ?_
    refine awp_plain hN rfl ?_
    refine seq_run0 (stp_assign (.dat _) rfl) ?_
    refine awp_block ?_
    refine awp_iter (fun (s : Int × (List Int)) => [(0, .dat (vstr s1)), (1, .dat (vbool plus2)), (6, .ptr 1 0), (7, .dat (vint s.1))]) (fun (s : Int × (List Int)) => [(1, .box none 124 [.nptr 1, .row 2 s.2.length]), (2, .row 5 1 (List.map C_uint8 s.2))]) (0, ([] : List Int)) H ⟨rfl, rfl, rfl, rfl, trivial⟩ ⟨rfl, rfl, trivial⟩ (fun _ => rfl) ?_
    rintro ⟨i3, l4⟩ q5 H hq5
    replace H : message_decoded_L2 s1 plus2 i3 l4 = some q5 := H
    unfold message_decoded_L2 at H
    refine awp_cv ?_
    refine awp_seq ?_
    refine awp_seq ?_
    refine awp_plain hN rfl ?_
    refine seq_run0 (stp_move (.dat _) rfl) ?_
    refine seq_run0 (stp_move (.dat _) rfl) ?_
    refine seq_run0 (stp_len_str tyU9 rfl) ?_
    refine seq_run0 (stp_lss rfl rfl) ?_
    refine awp_cond _ rfl (fun h6 => ?_) (fun h6 => ?_)
    · replace H := ift h6 H
      refine awp_skip ?_
      refine awp_joinE (ι := Int × (List Int)) (fun i => [(0, .dat (vstr s1)), (1, .dat (vbool plus2)), (6, .ptr 1 0), (7, .dat (vint i.1))]) (fun i => [(1, .box none 124 [.nptr 1, .row 6 i.2.length]), (6, .row 5 1 (List.map C_uint8 i.2))]) (fun i => message_decoded_J3 i.1 i.2 = some q5) (fun i => rfl) ?_ ?_
      · refine awp_cv ?_
        refine awp_block ?_
        refine awp_block ?_
        refine awp_seq ?_
        refine awp_plain hN rfl ?_
        refine seq_run0 (stp_move (.dat _) rfl) ?_
        refine seq_run0 (stp_move (.dat _) rfl) ?_
        obtain ⟨x7, h8, H⟩ := bnd H
        refine seq_run0 (t_byteI tyU9 rfl rfl h8) ?_
        refine seq_run0 (stp_eql rfl rfl) ?_
        refine seq_run0 (stp_move (.dat _) rfl) ?_
        refine seq_aT rfl rfl (fun hc => stp_move (.dat _) rfl) ?_
        refine seq_run0 (stp_pick_and rfl (fun hb => (cnd (c := (decide ((x7.toNat : Int) = 43))) hb)) rfl) ?_
        refine seq_run0 (stp_assign (.dat _) rfl) ?_
        refine awp_cond _ rfl (fun h9 => ?_) (fun h9 => ?_)
        · replace H := ift h9 H
          refine awp_plain hN rfl ?_
          obtain ⟨r10, h11, H⟩ := bnd H
          refine seq_callG (rn [(0, 1), (1, 2), (900, 3)]) [(0, _, _, some _), (1, _, _, none)] [(900, _)] (kb_strings_Builder_WriteByte l4 32 r10 h11) ⟨rfl, rfl, rfl, trivial⟩ ⟨.inl (.inl rfl), .inl (.inl rfl), trivial⟩ ⟨⟨⟨rfl, rfl⟩, trivial⟩, ⟨⟨rfl, rfl, rfl⟩, trivial⟩, trivial⟩ rfl ?_
          refine seq_end ?_
          show Cv _ _ _ _
          refine cv_ren (rn [(3, 6)]) [(0, .dat (vstr s1)), (1, .dat (vbool plus2)), (6, .ptr 1 0), (7, .dat (vint i3))] [(1, .box none 124 [.nptr 1, .row 3 r10.2.length]), (3, .row 5 1 (List.map C_uint8 r10.2))] ⟨rfl, rfl, rfl, rfl, trivial⟩ ⟨rfl, rfl, trivial⟩ rfl rfl ?_
          exact ⟨(i3, r10.2), H, ⟨rfl, rfl, rfl, rfl, trivial⟩, ⟨rfl, rfl, trivial⟩⟩
        · replace H := iff_ h9 H
          refine awp_seq ?_
          refine awp_plain hN rfl ?_
          refine seq_run0 (stp_move (.dat _) rfl) ?_
          refine seq_run0 (stp_move (.dat _) rfl) ?_
          refine seq_run0 (t_byteI tyU9 rfl rfl h8) ?_
          refine seq_run0 (stp_neq rfl rfl) ?_
          refine seq_run0 (stp_assign (.dat _) rfl) ?_
          refine awp_cond _ rfl (fun h12 => ?_) (fun h12 => ?_)
          · replace H := ift h12 H
            refine awp_plain hN rfl ?_
            refine seq_run0 (stp_move (.dat _) rfl) ?_
            refine seq_run0 (stp_move (.dat _) rfl) ?_
            refine seq_run0 (t_byteI tyU9 rfl rfl h8) ?_
            obtain ⟨r13, h14, H⟩ := bnd H
            refine seq_callG (rn [(0, 1), (1, 2), (900, 4)]) [(0, _, _, some _), (1, _, _, none)] [(900, _)] (kb_strings_Builder_WriteByte l4 (x7.toNat : Int) r13 h14) ⟨rfl, rfl, rfl, trivial⟩ ⟨.inl (.inl rfl), .inl (.inl rfl), trivial⟩ ⟨⟨⟨rfl, rfl⟩, trivial⟩, ⟨⟨rfl, rfl, rfl⟩, trivial⟩, trivial⟩ rfl ?_
            refine seq_end ?_
            show Cv _ _ _ _
            refine cv_ren (rn [(4, 6)]) [(0, .dat (vstr s1)), (1, .dat (vbool plus2)), (6, .ptr 1 0), (7, .dat (vint i3))] [(1, .box none 124 [.nptr 1, .row 4 r13.2.length]), (4, .row 5 1 (List.map C_uint8 r13.2))] ⟨rfl, rfl, rfl, rfl, trivial⟩ ⟨rfl, rfl, trivial⟩ rfl rfl ?_
            exact ⟨(i3, r13.2), H, ⟨rfl, rfl, rfl, rfl, trivial⟩, ⟨rfl, rfl, trivial⟩⟩
          · replace H := iff_ h12 H
            refine awp_seq ?_
            refine awp_plain hN rfl ?_
            refine seq_run0 (stp_move (.dat _) rfl) ?_
            refine seq_run0 (stp_move (.dat _) rfl) ?_
            obtain ⟨r15, h16, H⟩ := bnd H
            refine seq_run0 (stp_call (k_message_isUnit s1 i3 r15 h16) ⟨.inl rfl, .inl rfl, trivial⟩) ?_
            refine seq_run0 (stp_not rfl) ?_
            refine seq_run0 (stp_assign (.dat _) rfl) ?_
            refine awp_cond _ rfl (fun h17 => ?_) (fun h17 => ?_)
            · replace H := ift h17 H
              refine awp_seq ?_
              refine awp_plain hN rfl ?_
              refine seq_run0 (stp_assign (.dat _) rfl) ?_
              refine seq_run0 (stp_assign (.dat _) rfl) ?_
              refine awp_ret ?_
              replace H := retl H hq5
              cases H
              show Cv _ _ _ _
              refine cv_in ?_
              show Cv _ _ _ _
              refine cv_in ?_
              show Cv _ _ _ _
              refine cv_in ?_
              exact ⟨trivial, .inl rfl, .inl rfl, trivial⟩
            · replace H := iff_ h17 H
              refine awp_seq ?_
              refine awp_plain hN rfl ?_
              refine seq_run0 (stp_move (.dat _) rfl) ?_
              refine seq_run0 (stp_move (.dat _) rfl) ?_
              obtain ⟨r18, h19, H⟩ := bnd H
              refine seq_run0 (stp_call (k_message_unit s1 i3 r18 h19) ⟨.inl rfl, .inl rfl, trivial⟩) ?_
              obtain ⟨r20, h21, H⟩ := bnd H
              refine seq_callG (rn [(0, 1), (1, 2), (900, 5)]) [(0, _, _, some _), (1, _, _, none)] [(900, _)] (kb_strings_Builder_WriteByte l4 r18 r20 h21) ⟨rfl, rfl, rfl, trivial⟩ ⟨.inl (.inl rfl), .inl (.inl rfl), trivial⟩ ⟨⟨⟨rfl, rfl⟩, trivial⟩, ⟨⟨rfl, rfl, rfl⟩, trivial⟩, trivial⟩ rfl ?_
              refine awp_plain hN rfl ?_
              refine seq_run0 (stp_move (.dat _) rfl) ?_
              refine seq_run0 (stp_wrap _ rfl rfl (.inl ⟨rfl, rfl⟩)) ?_
              refine seq_run0 (stp_assign (.dat _) rfl) ?_
              refine seq_end ?_
              show Cv _ _ _ _
              refine cv_ren (rn [(5, 6)]) [(0, .dat (vstr s1)), (1, .dat (vbool plus2)), (6, .ptr 1 0), (7, .dat (vint (wr (i3 + 2))))] [(1, .box none 124 [.nptr 1, .row 5 r20.2.length]), (5, .row 5 1 (List.map C_uint8 r20.2))] ⟨rfl, rfl, rfl, rfl, trivial⟩ ⟨rfl, rfl, trivial⟩ rfl rfl ?_
              exact ⟨(wr (i3 + 2), r20.2), H, ⟨rfl, rfl, rfl, rfl, trivial⟩, ⟨rfl, rfl, trivial⟩⟩
      · rintro ⟨i22, l23⟩ H
        replace H : message_decoded_J3 i22 l23 = some q5 := H
        unfold message_decoded_J3 at H
        refine awp_plain hN rfl ?_
        refine seq_run0 (stp_move (.dat _) rfl) ?_
        refine seq_run0 (stp_wrap _ rfl rfl (.inl ⟨rfl, rfl⟩)) ?_
        refine seq_run0 (stp_assign (.dat _) rfl) ?_
        refine seq_end ?_
        show Cv _ _ _ _
        refine cv_ren (rn [(6, 2)]) [(0, .dat (vstr s1)), (1, .dat (vbool plus2)), (6, .ptr 1 0), (7, .dat (vint (wr (i22 + 1))))] [(1, .box none 124 [.nptr 1, .row 6 l23.length]), (6, .row 5 1 (List.map C_uint8 l23))] ⟨rfl, rfl, rfl, rfl, trivial⟩ ⟨rfl, rfl, trivial⟩ rfl rfl ?_
        exact ⟨_, backl H, ⟨rfl, rfl, rfl, rfl, trivial⟩, ⟨rfl, rfl, trivial⟩⟩
    · replace H := iff_ h6 H
      refine awp_exit ?_
      replace H := outl H hq5
      show Cv _ _ _ _
      refine cv_in ?_
      show Cv _ _ _ _
      refine cv_in ?_
      exact ⟨l4, H, ⟨rfl, trivial⟩, ⟨rfl, rfl, trivial⟩⟩
  · rintro l24 H
    replace H : message_decoded_J1 l24 = some r := H
    unfold message_decoded_J1 at H
    refine awp_seq ?_
    refine awp_plain hN rfl ?_
    obtain ⟨h25, H⟩ := gif H
    refine seq_callG (rn [(0, 1), (1, 2)]) [(0, _, _, none), (1, _, _, none)] [] (kbs_String h25 (C := C_uint8) (fun _ => rfl)) ⟨rfl, rfl, trivial⟩ ⟨.inl (.inl rfl), trivial⟩ ⟨⟨⟨rfl, rfl⟩, trivial⟩, ⟨⟨rfl, rfl, rfl⟩, trivial⟩, trivial⟩ rfl ?_
    refine seq_run0 (stp_assign (.dat _) rfl) ?_
    refine seq_run0 (stp_assign (.dat _) rfl) ?_
    refine awp_ret ?_
    cases H
    exact ⟨trivial, .inl rfl, .inl rfl, trivial⟩
theorem k_message_ParseQuery (s1 : Bs) (r : ((List S_api_Pair) × Int)) (H : m_message_ParseQuery s1 = some r) : Fn Tryz.prog 10 [vstr s1] (resOf [vlst (List.map C_api_Pair r.1), vint r.2]) := by
  refine ⟨by kernel_rfl, pure_of (us := [vlst (List.map C_api_Pair r.1), vint r.2]) Tryz.func10 rfl rfl rfl rfl fun X hN => ?_⟩
  unfold m_message_ParseQuery at H
  refine awp_seq ?_
  refine awp_plain hN rfl ?_
  refine seq_run0 (stp_assign (.dat _) rfl) ?_
  refine seq_run0 (stp_assign (.dat _) rfl) ?_
  refine awp_seq ?_
  refine awp_seq ?_
  refine awp_plain hN rfl ?_
  refine seq_run0 (stp_move (.dat _) rfl) ?_
  obtain ⟨r2, h3, H⟩ := bnd H
  refine seq_run0 (stp_call (k_message_queryFault s1 r2 h3) ⟨.inl rfl, trivial⟩) ?_
  refine seq_run0 (stp_assign (.dat _) rfl) ?_
  refine awp_seq ?_
  refine awp_plain hN rfl ?_
  refine seq_run0 (stp_move (.dat _) rfl) ?_
  refine seq_run0 (stp_neq rfl rfl) ?_
  refine awp_cond _ rfl (fun h4 => ?_) (fun h4 => ?_)
  · replace H := ift h4 H
    refine awp_seq ?_
    refine awp_plain hN rfl ?_
    refine seq_run0 (stp_move (.dat _) rfl) ?_
    refine seq_run0 (stp_assign (.dat _) rfl) ?_
    refine seq_run0 (stp_assign (.dat _) rfl) ?_
    refine awp_ret ?_
    cases H
    exact ⟨trivial, .inr ⟨rfl, rfl⟩, .inl rfl, trivial⟩
  · replace H := iff_ h4 H
    refine awp_skip ?_
    refine awp_seq ?_
    refine awp_plain hN rfl ?_
    refine seq_run0 (stp_assign (.dat _) rfl) ?_
    refine awp_seq ?_
    refine awp_seq ?_
    refine awp_plain hN rfl ?_
    refine seq_run0 (stp_move (.dat _) rfl) ?_
    obtain ⟨r5, h6, H⟩ := bnd H
    refine seq_run0 (stp_call (k_strings_Split s1 [38] r5 h6) ⟨.inl rfl, .inl rfl, trivial⟩) ?_
    refine seq_run0 (t_len tyU43 rfl) ?_
    refine seq_run0 (stp_move (.dat _) rfl) ?_
    refine awp_block ?_
    refine awp_nilrow 5 1 31 2 rfl rfl rfl ?_
    obtain ⟨h10, H⟩ := gif H
    refine awp_forL (fun (k8 : Nat) (s : (List S_api_Pair)) => [(5, .row 1 s.length), (21, .dat (vlst (List.map C_string r5))), (22, .dat (vint (r5.length : Int))), (23, .dat (vint (k8 : Int)))]) (fun (k8 : Nat) (s : (List S_api_Pair)) => [(1, .row 31 2 (List.map C_api_Pair s))]) [] H ⟨congrArg (Slot.row 1) (by simp), rfl, rfl, rfl, trivial⟩ ⟨rfl, trivial⟩ (fun _ _ => rfl) ?_ ?_
    · rintro l7 H
      replace H : message_ParseQuery_E1 l7 = some r := H
      unfold message_ParseQuery_E1 at H
      refine awp_seq ?_
      refine awp_plain hN rfl ?_
      refine seq_run0 (stp_lss rfl rfl) ?_
      refine awp_seq ?_
      refine awp_cond _ rfl (fun h => (lt_t h).elim) (fun h => ?_)
      refine awp_exit ?_
      refine awp_seq ?_
      refine awp_seq ?_
      refine awp_plain hN rfl ?_
      refine seq_run0 (stp_move (.row _ _) rfl) ?_
      refine seq_run1 (t_lenR tyU27 rfl rfl) rfl ?_
      refine seq_run0 (stp_gtr rfl rfl) ?_
      refine awp_cond _ rfl (fun h12 => ?_) (fun h12 => ?_)
      · replace H := ift h12 H
        refine awp_seq ?_
        refine awp_plain hN rfl ?_
        refine seq_run0 (stp_assign (.dat _) rfl) ?_
        refine seq_run0 (stp_assign (.dat _) rfl) ?_
        refine awp_ret ?_
        cases H
        exact ⟨trivial, .inr ⟨rfl, rfl⟩, .inl rfl, trivial⟩
      · replace H := iff_ h12 H
        refine awp_skip ?_
        refine awp_seq ?_
        refine awp_plain hN rfl ?_
        refine seq_run0 (stp_move (.row _ _) rfl) ?_
        refine seq_run0 (stp_assign (.row _ _) rfl) ?_
        refine seq_run0 (stp_assign (.dat _) rfl) ?_
        refine awp_ret ?_
        cases H
        exact ⟨trivial, t_slotv rfl rfl, .inl rfl, trivial⟩
    · rintro k8 x11 l7 q9 h13 h14 H hq9
      replace H : message_ParseQuery_L1 k8 x11 l7 = some q9 := H
      unfold message_ParseQuery_L1 at H
      refine awp_seq ?_
      refine awp_plain hN rfl ?_
      refine seq_run0 (stp_lss rfl rfl) ?_
      refine awp_seq ?_
      refine awp_cond _ rfl (fun h => ?_) (fun h => (lt_f h13 h).elim)
      refine awp_skip ?_
      refine awp_joinE (ι := (List S_api_Pair)) (fun i => [(5, .row 1 i.length), (21, .dat (vlst (List.map C_string r5))), (22, .dat (vint (r5.length : Int))), (23, .dat (vint (k8 : Int)))]) (fun i => [(1, .row 31 2 (List.map C_api_Pair i))]) (fun i => message_ParseQuery_J2 i = some q9) (fun i => rfl) ?_ ?_
      · skip
        refine awp_block ?_
        refine awp_seq ?_
        refine awp_plain hN rfl ?_
        refine seq_run0 (t_idx tyE43 (fun _ => rfl) rfl rfl h14) ?_
        refine seq_run0 (stp_loadE1 tyS9 rfl (map_at h14) rfl) ?_
        refine seq_run0 (stp_assign (.dat _) rfl) ?_
        refine awp_seq ?_
        refine awp_seq ?_
        refine awp_plain hN rfl ?_
        refine seq_run0 (stp_move (.dat _) rfl) ?_
        refine seq_run0 (stp_seql rfl rfl) ?_
        refine awp_cond _ rfl (fun h15 => ?_) (fun h15 => ?_)
        · replace H := ift h15 H
          refine awp_exit ?_
          exact ⟨l7, H, ⟨rfl, rfl, rfl, rfl, trivial⟩, ⟨rfl, trivial⟩⟩
        · replace H := iff_ h15 H
          refine awp_skip ?_
          refine awp_seq ?_
          refine awp_plain hN rfl ?_
          refine seq_run0 (stp_move (.dat _) rfl) ?_
          obtain ⟨r16, h17, H⟩ := bnd H
          refine seq_run0 (stp_call (k_strings_Cut x11 [61] r16 h17) ⟨.inl rfl, .inl rfl, trivial⟩) ?_
          refine seq_run0 (stp_move (.dat _) rfl) ?_
          refine seq_run0 (stp_ext rfl rfl) ?_
          refine seq_run0 (stp_ext rfl rfl) ?_
          refine seq_run0 (stp_ext rfl rfl) ?_
          refine seq_run0 (stp_assign (.dat _) rfl) ?_
          refine seq_run0 (stp_assign (.dat _) rfl) ?_
          refine seq_run0 (stp_assign (.dat _) rfl) ?_
          refine awp_seq ?_
          refine awp_plain hN rfl ?_
          refine seq_run0 (stp_move (.dat _) rfl) ?_
          obtain ⟨r18, h19, H⟩ := bnd H
          refine seq_run0 (stp_call (k_message_decoded r16.1 true r18 h19) ⟨.inl rfl, .inl rfl, trivial⟩) ?_
          refine seq_run0 (stp_move (.dat _) rfl) ?_
          refine seq_run0 (stp_ext rfl rfl) ?_
          refine seq_run0 (stp_ext rfl rfl) ?_
          refine seq_run0 (stp_assign (.dat _) rfl) ?_
          refine seq_run0 (stp_assign (.dat _) rfl) ?_
          refine awp_seq ?_
          refine awp_plain hN rfl ?_
          refine seq_run0 (stp_move (.dat _) rfl) ?_
          obtain ⟨r20, h21, H⟩ := bnd H
          refine seq_run0 (stp_call (k_message_decoded r16.2.1 true r20 h21) ⟨.inl rfl, .inl rfl, trivial⟩) ?_
          refine seq_run0 (stp_move (.dat _) rfl) ?_
          refine seq_run0 (stp_ext rfl rfl) ?_
          refine seq_run0 (stp_ext rfl rfl) ?_
          refine seq_run0 (stp_assign (.dat _) rfl) ?_
          refine seq_run0 (stp_assign (.dat _) rfl) ?_
          refine awp_seq ?_
          refine awp_seq ?_
          refine awp_plain hN rfl ?_
          refine seq_run0 (stp_move (.dat _) rfl) ?_
          refine seq_run0 (stp_not rfl) ?_
          refine seq_run0 (stp_move (.dat _) rfl) ?_
          refine seq_aF rfl rfl (fun hc => stp_move (.dat _) rfl) ?_
          refine seq_aF rfl rfl (fun hc => stp_not (cnd (c := (!(!r18.2))) hc)) ?_
          refine seq_run0 (stp_pick_or rfl rfl (fun hb => (cnd (c := (!(!r18.2))) (notI hb)))) ?_
          refine awp_cond _ rfl (fun h22 => ?_) (fun h22 => ?_)
          · replace H := ift h22 H
            refine awp_seq ?_
            refine awp_plain hN rfl ?_
            refine seq_run0 (stp_assign (.dat _) rfl) ?_
            refine seq_run0 (stp_assign (.dat _) rfl) ?_
            refine awp_ret ?_
            replace H := retl H hq9
            cases H
            exact ⟨trivial, .inr ⟨rfl, rfl⟩, .inl rfl, trivial⟩
          · replace H := iff_ h22 H
            refine awp_skip ?_
            refine awp_plain hN rfl ?_
            refine seq_run0 (stp_move (.row _ _) rfl) ?_
            refine seq_run0 (stp_move (.dat _) rfl) ?_
            refine seq_run0 (stp_move (.dat _) rfl) ?_
            refine seq_run0 (stp_dat (u' := vagg (C_api_Pair (S_api_Pair.mk r18.1 r20.1))) (stp_build [(0, [vstr r18.1]), (1, [vstr r20.1])] tyZ31 tyP31 rfl ⟨rfl, .inl ⟨_, rfl, rfl, rfl⟩, rfl, rfl, .inl ⟨_, rfl, rfl, rfl⟩, rfl, trivial⟩) rfl) ?_
            refine seq_run0 (stp_dat (u' := vlst (List.map C_api_Pair [(S_api_Pair.mk r18.1 r20.1)])) (stp_lit [_] tyL27 ⟨rfl, .inr rfl, rfl, trivial⟩ rfl rfl) rfl) ?_
            obtain ⟨h23, H⟩ := gif H
            refine seq_run2 (t_app tyL27 (fun _ => rfl) rfl rfl rfl ⟨by simp, by simpa using h23⟩ rfl) rfl ?_
            refine seq_run0 (stp_assign (.row _ _) rfl) ?_
            exact ⟨(l7 ++ [(S_api_Pair.mk r18.1 r20.1)]), H, ⟨rfl, rfl, rfl, rfl, trivial⟩, ⟨rfl, trivial⟩⟩
      · rintro out24 H
        replace H : message_ParseQuery_J2 out24 = some q9 := H
        unfold message_ParseQuery_J2 at H
        refine awp_plain hN rfl ?_
        refine seq_run0 (stp_add rfl rfl (by omega)) ?_
        refine seq_run0 (stp_move (.dat _) rfl) ?_
        exact ⟨_, backl H, ⟨rfl, rfl, rfl, rfl, trivial⟩, ⟨rfl, trivial⟩⟩
theorem k_gateref2_visible (s1 : Bs) (low2 : Int) (r : (Bool)) (H : m_gateref2_visible s1 low2 = some r) : Fn Tryz.prog 103 [vstr s1, vval (.int .u8 low2)] (resOf [vbool r]) := by
  refine ⟨by kernel_rfl, pure_of (us := [vbool r]) Tryz.func103 rfl rfl rfl rfl fun X hN => ?_⟩
  unfold m_gateref2_visible at H
  refine awp_seq ?_
  refine awp_plain hN rfl ?_
  refine seq_run0 (stp_assign (.dat _) rfl) ?_
  refine awp_seq ?_
  refine awp_seq ?_
  refine awp_plain hN rfl ?_
  refine seq_run0 (stp_move (.dat _) rfl) ?_
  refine seq_run0 (stp_len_str tyU9 rfl) ?_
  refine seq_run0 (stp_move (.dat _) rfl) ?_
  refine awp_block ?_
  obtain ⟨h5, H⟩ := gif H
  refine awp_forL (fun (k3 : Nat) (s : Unit) => [(0, .dat (vstr s1)), (1, .dat (vval (.int .u8 low2))), (7, .dat (vint (s1.length : Int))), (8, .dat (vint (k3 : Int)))]) (fun (k3 : Nat) (s : Unit) => []) () H ⟨rfl, rfl, rfl, rfl, trivial⟩ trivial (fun _ _ => rfl) ?_ ?_
  · rintro ⟨⟩ H
    replace H : gateref2_visible_E1 = some r := H
    unfold gateref2_visible_E1 at H
    refine awp_seq ?_
    refine awp_plain hN rfl ?_
    refine seq_run0 (stp_lss rfl rfl) ?_
    refine awp_seq ?_
    refine awp_cond _ rfl (fun h => (lt_t h).elim) (fun h => ?_)
    refine awp_exit ?_
    refine awp_seq ?_
    refine awp_plain hN rfl ?_
    refine seq_run0 (stp_assign (.dat _) rfl) ?_
    refine awp_ret ?_
    cases H
    exact ⟨trivial, .inl rfl, trivial⟩
  · rintro k3 x6 ⟨⟩ q4 h7 h8 H hq4
    replace H : gateref2_visible_L1 low2 k3 x6 = some q4 := H
    unfold gateref2_visible_L1 at H
    refine awp_seq ?_
    refine awp_plain hN rfl ?_
    refine seq_run0 (stp_lss rfl rfl) ?_
    refine awp_seq ?_
    refine awp_cond _ rfl (fun h => ?_) (fun h => (lt_f h7 h).elim)
    refine awp_skip ?_
    refine awp_seq ?_
    refine awp_block ?_
    refine awp_seq ?_
    refine awp_plain hN rfl ?_
    refine seq_run0 (stp_move (.dat _) rfl) ?_
    refine seq_run0 (stp_assign (.dat _) rfl) ?_
    refine awp_joinE (ι := Bool) (fun i => [(0, .dat (vstr s1)), (1, .dat (vval (.int .u8 low2))), (7, .dat (vint (s1.length : Int))), (8, .dat (vint (k3 : Int))), (21, .dat (vbool i))]) (fun i => []) (fun i => gateref2_visible_J2 i = some q4) (fun i => rfl) ?_ ?_
    · skip
      refine awp_plain hN rfl ?_
      refine seq_run0 (stp_move (.dat _) rfl) ?_
      refine seq_run0 (stp_move (.dat _) rfl) ?_
      refine seq_run0 (t_byte tyU9 rfl rfl h8) ?_
      refine seq_run0 (stp_move (.dat _) rfl) ?_
      refine seq_run0 (stp_lss rfl rfl) ?_
      refine seq_run0 (stp_move (.dat _) rfl) ?_
      refine seq_split (j := 5) rfl rfl (fun h9 => ?_) (fun h9 => ?_) rfl
      · have h10 := un3 h9
        replace H := iff_ h10 H
        refine seq_g0 rfl rfl h9 (stp_move (.dat _) rfl) ?_
        refine seq_g0 rfl rfl h9 (stp_move (.dat _) rfl) ?_
        refine seq_g0 rfl rfl h9 (t_byte tyU9 rfl rfl h8) ?_
        refine seq_g0 rfl rfl h9 (stp_gtr rfl rfl) ?_
        refine seq_run0 (stp_pick_f rfl (bFF h10) rfl) ?_
        exact ⟨decide (126 < (x6.toNat : Int)), H, ⟨rfl, rfl, rfl, rfl, rfl, trivial⟩, trivial⟩
      · have h11 := un4 h9
        replace H := ift h11 H
        refine seq_skip rfl rfl h9 ?_
        refine seq_skip rfl rfl h9 ?_
        refine seq_skip rfl rfl h9 ?_
        refine seq_skip rfl rfl h9 ?_
        refine seq_run0 (stp_pick_t rfl (bTT h11) rfl) ?_
        exact ⟨true, H, ⟨rfl, rfl, rfl, rfl, rfl, trivial⟩, trivial⟩
    · rintro v12 H
      replace H : gateref2_visible_J2 v12 = some q4 := H
      unfold gateref2_visible_J2 at H
      refine awp_cond _ rfl (fun h13 => ?_) (fun h13 => ?_)
      · replace H := ift h13 H
        refine awp_seq ?_
        refine awp_plain hN rfl ?_
        refine seq_run0 (stp_assign (.dat _) rfl) ?_
        refine awp_ret ?_
        replace H := retl H hq4
        cases H
        exact ⟨trivial, .inl rfl, trivial⟩
      · replace H := iff_ h13 H
        refine awp_skip ?_
        refine awp_plain hN rfl ?_
        refine seq_run0 (stp_add rfl rfl (by omega)) ?_
        refine seq_run0 (stp_move (.dat _) rfl) ?_
        exact ⟨_, backl H, ⟨rfl, rfl, rfl, rfl, trivial⟩, trivial⟩
theorem k_gateref2_queryForm (s1 : Bs) (r : (Bool)) (H : m_gateref2_queryForm s1 = some r) : Fn Tryz.prog 43 [vstr s1] (resOf [vbool r]) := by
  refine ⟨by kernel_rfl, pure_of (us := [vbool r]) Tryz.func43 rfl rfl rfl rfl fun X hN => ?_⟩
  unfold m_gateref2_queryForm at H
  refine awp_seq ?_
  refine awp_plain hN rfl ?_
  refine seq_run0 (stp_assign (.dat _) rfl) ?_
  refine awp_joinE (ι := Bool) (fun i => [(2, .dat (vbool i))]) (fun i => []) (fun i => gateref2_queryForm_J1 i = some r) (fun i => rfl) ?_ ?_
  · skip
    refine awp_plain hN rfl ?_
    refine seq_run0 (stp_move (.dat _) rfl) ?_
    refine seq_run0 (stp_len_str tyU9 rfl) ?_
    refine seq_run0 (stp_leq rfl rfl) ?_
    refine seq_run0 (stp_move (.dat _) rfl) ?_
    refine seq_split (j := 3) rfl rfl (fun h2 => ?_) (fun h2 => ?_) rfl
    · have h3 := un1 h2
      replace H := ift h3 H
      refine seq_g0 rfl rfl h2 (stp_move (.dat _) rfl) ?_
      obtain ⟨r4, h5, H⟩ := bnd H
      refine seq_g0 rfl rfl h2 (stp_call (k_gateref2_visible s1 33 r4 h5) ⟨.inl rfl, .inl rfl, trivial⟩) ?_
      refine seq_run0 (stp_pick_t rfl (bTT h3) rfl) ?_
      refine seq_run0 (stp_move (.dat _) rfl) ?_
      refine seq_split (j := 7) rfl rfl (fun h6 => ?_) (fun h6 => ?_) rfl
      · have h7 := un1 h6
        replace H := ift h7 H
        refine seq_g0 rfl rfl h6 (stp_move (.dat _) rfl) ?_
        obtain ⟨r8, h9, H⟩ := bnd H
        refine seq_g0 rfl rfl h6 (stp_call (k_strings_Contains s1 [35] r8 h9) ⟨.inl rfl, .inl rfl, trivial⟩) ?_
        refine seq_g0 rfl rfl h6 (stp_not rfl) ?_
        refine seq_run0 (stp_pick_t rfl (bTT h7) rfl) ?_
        refine seq_run0 (stp_assign (.dat _) rfl) ?_
        exact ⟨!r8, H, ⟨rfl, trivial⟩, trivial⟩
      · have h10 := un2 h6
        replace H := iff_ h10 H
        refine seq_skip rfl rfl h6 ?_
        refine seq_skip rfl rfl h6 ?_
        refine seq_skip rfl rfl h6 ?_
        refine seq_run0 (stp_pick_f rfl (bFF h10) rfl) ?_
        refine seq_run0 (stp_assign (.dat _) rfl) ?_
        exact ⟨false, H, ⟨rfl, trivial⟩, trivial⟩
    · have h11 := un2 h2
      replace H := iff_ h11 H
      refine seq_skip rfl rfl h2 ?_
      refine seq_skip rfl rfl h2 ?_
      refine seq_run0 (stp_pick_f rfl (bFF h11) rfl) ?_
      refine seq_run0 (stp_move (.dat _) rfl) ?_
      refine seq_skip rfl rfl rfl ?_
      refine seq_skip rfl rfl rfl ?_
      refine seq_skip rfl rfl rfl ?_
      refine seq_run0 (stp_pick_f rfl rfl rfl) ?_
      refine seq_run0 (stp_assign (.dat _) rfl) ?_
      exact ⟨false, H, ⟨rfl, trivial⟩, trivial⟩
  · rintro v12 H
    replace H : gateref2_queryForm_J1 v12 = some r := H
    unfold gateref2_queryForm_J1 at H
    refine awp_ret ?_
    cases H
    exact ⟨trivial, .inl rfl, trivial⟩
theorem k_gateref2_units (s1 : Bs) (r : ((List S_gateref2_unit) × Bool)) (H : m_gateref2_units s1 = some r) : Fn Tryz.prog 44 [vstr s1] (resOf [vlst (List.map C_gateref2_unit r.1), vbool r.2]) := by
  refine ⟨by kernel_rfl, pure_of (us := [vlst (List.map C_gateref2_unit r.1), vbool r.2]) Tryz.func44 rfl rfl rfl rfl fun X hN => ?_⟩
  unfold m_gateref2_units at H
  refine awp_seq ?_
  refine awp_plain hN rfl ?_
  refine seq_run0 (stp_assign (.dat _) rfl) ?_
  refine seq_run0 (stp_assign (.dat _) rfl) ?_
  refine awp_seq ?_
  refine awp_plain hN rfl ?_
  refine seq_run0 (stp_assign (.dat _) rfl) ?_
  refine awp_joinE (ι := (List S_gateref2_unit)) (fun i => [(4, .row 1 i.length)]) (fun i => [(1, .row 132 2 (List.map C_gateref2_unit i))]) (fun i => gateref2_units_J1 i = some r) (fun i => rfl) ?_ ?_
  · skip
    refine awp_block ?_
    refine awp_nilrow 4 1 132 2 rfl rfl rfl ?_
    refine awp_iter (fun (s : Bs × (List S_gateref2_unit)) => [(0, .dat (vstr s.1)), (4, .row 1 s.2.length)]) (fun (s : Bs × (List S_gateref2_unit)) => [(1, .row 132 2 (List.map C_gateref2_unit s.2))]) (s1, []) H ⟨rfl, congrArg (Slot.row 1) (by simp), trivial⟩ ⟨rfl, trivial⟩ (fun _ => rfl) ?_
    rintro ⟨s2, l3⟩ q4 H hq4
    replace H : gateref2_units_L2 s2 l3 = some q4 := H
    unfold gateref2_units_L2 at H
    refine awp_seq ?_
    refine awp_seq ?_
    refine awp_plain hN rfl ?_
    refine seq_run0 (stp_move (.dat _) rfl) ?_
    refine seq_run0 (stp_sneq rfl rfl) ?_
    refine awp_cond _ rfl (fun h5 => ?_) (fun h5 => ?_)
    · replace H := ift h5 H
      refine awp_skip ?_
      refine awp_block ?_
      refine awp_seq ?_
      refine awp_seq ?_
      refine awp_plain hN rfl ?_
      refine seq_run0 (stp_move (.dat _) rfl) ?_
      obtain ⟨x6, h7, H⟩ := bnd H
      refine seq_run0 (t_byte tyU9 rfl rfl h7) ?_
      refine seq_run0 (stp_neq rfl rfl) ?_
      refine awp_cond _ rfl (fun h8 => ?_) (fun h8 => ?_)
      · replace H := ift h8 H
        refine awp_seq ?_
        refine awp_draw mixed hN rfl rfl ?_
        refine seq_run0 (stp_move (.row _ _) rfl) ?_
        refine seq_run0 (stp_move (.dat _) rfl) ?_
        refine seq_run0 (t_byte tyU9 rfl rfl h7) ?_
        refine seq_run0 (stp_dat (u' := vagg (C_gateref2_unit (S_gateref2_unit.mk (x6.toNat : Int) true))) (stp_build [(0, [vval (.int .u8 (x6.toNat : Int))]), (1, [vbool true])] tyZ132 tyP132 rfl ⟨rfl, .inl ⟨_, rfl, rfl, rfl⟩, rfl, rfl, .inl ⟨_, rfl, rfl, rfl⟩, rfl, trivial⟩) rfl) ?_
        refine seq_run0 (stp_dat (u' := vlst (List.map C_gateref2_unit [(S_gateref2_unit.mk (x6.toNat : Int) true)])) (stp_lit [_] tyL73 ⟨rfl, .inr rfl, rfl, trivial⟩ rfl rfl) rfl) ?_
        obtain ⟨h9, H⟩ := gif H
        refine seq_run2 (t_app tyL73 (fun _ => rfl) rfl rfl rfl ⟨by simp, by simpa using h9⟩ rfl) rfl ?_
        refine seq_run0 (stp_move (.dat _) rfl) ?_
        obtain ⟨l10, h11, H⟩ := bnd H
        refine seq_run0 (t_subS tyU9 rfl rfl rfl h11) ?_
        refine seq_run0 (stp_assign (.row _ _) rfl) ?_
        refine seq_run0 (stp_assign (.dat _) rfl) ?_
        refine ⟨rfl, ?_⟩
        refine awp_exit ?_
        exact ⟨_, backl H, ⟨rfl, rfl, trivial⟩, ⟨rfl, trivial⟩⟩
      · replace H := iff_ h8 H
        refine awp_skip ?_
        refine awp_seq ?_
        refine awp_seq ?_
        refine awp_plain hN rfl ?_
        refine seq_run0 (stp_move (.dat _) rfl) ?_
        refine seq_run0 (stp_len_str tyU9 rfl) ?_
        refine seq_run0 (stp_lss rfl rfl) ?_
        refine awp_cond _ rfl (fun h12 => ?_) (fun h12 => ?_)
        · replace H := ift h12 H
          refine awp_seq ?_
          refine awp_plain hN rfl ?_
          refine seq_run0 (stp_assign (.dat _) rfl) ?_
          refine seq_run0 (stp_assign (.dat _) rfl) ?_
          refine awp_ret ?_
          replace H := retl H hq4
          cases H
          exact ⟨trivial, .inr ⟨rfl, rfl⟩, .inl rfl, trivial⟩
        · replace H := iff_ h12 H
          refine awp_skip ?_
          refine awp_seq ?_
          refine awp_plain hN rfl ?_
          refine seq_run0 (stp_move (.dat _) rfl) ?_
          obtain ⟨l13, h14, H⟩ := bnd H
          refine seq_run0 (t_subS tyU9 rfl rfl rfl h14) ?_
          obtain ⟨r15, h16, H⟩ := bnd H
          refine seq_run0 (stp_call (k_strconv_ParseUint l13 16 8 r15 h16) ⟨.inl rfl, .inl rfl, .inl rfl, trivial⟩) ?_
          refine seq_run0 (stp_move (.dat _) rfl) ?_
          refine seq_run0 (stp_ext rfl rfl) ?_
          refine seq_run0 (stp_ext rfl rfl) ?_
          refine seq_run0 (stp_assign (.dat _) rfl) ?_
          refine seq_run0 (stp_assign (.dat _) rfl) ?_
          refine awp_seq ?_
          refine awp_seq ?_
          refine awp_plain hN rfl ?_
          refine seq_run0 (stp_move (.dat _) rfl) ?_
          refine seq_run0 (stp_errneq (n := r15.2) (show Tryz.prog.underlying 126 = some (.interface (Tryz.prog.methodsAt 126)) from by kernel_rfl) rfl) ?_
          refine awp_cond _ rfl (fun h17 => ?_) (fun h17 => ?_)
          · replace H := ift h17 H
            refine awp_seq ?_
            refine awp_plain hN rfl ?_
            refine seq_run0 (stp_assign (.dat _) rfl) ?_
            refine seq_run0 (stp_assign (.dat _) rfl) ?_
            refine awp_ret ?_
            replace H := retl H hq4
            cases H
            exact ⟨trivial, .inr ⟨rfl, rfl⟩, .inl rfl, trivial⟩
          · replace H := iff_ h17 H
            refine awp_skip ?_
            refine awp_draw mixed hN rfl rfl ?_
            refine seq_run0 (stp_move (.row _ _) rfl) ?_
            refine seq_run0 (stp_move (.dat _) rfl) ?_
            refine seq_run0 (stp_conv tyU133 tyU5 rfl) ?_
            refine seq_run0 (stp_dat (u' := vagg (C_gateref2_unit (S_gateref2_unit.mk (IntKind.wrap .u8 r15.1) false))) (stp_build [(0, [vval (.int .u8 (IntKind.wrap .u8 r15.1))]), (1, [vbool false])] tyZ132 tyP132 rfl ⟨rfl, .inl ⟨_, rfl, rfl, rfl⟩, rfl, rfl, .inl ⟨_, rfl, rfl, rfl⟩, rfl, trivial⟩) rfl) ?_
            refine seq_run0 (stp_dat (u' := vlst (List.map C_gateref2_unit [(S_gateref2_unit.mk (IntKind.wrap .u8 r15.1) false)])) (stp_lit [_] tyL73 ⟨rfl, .inr rfl, rfl, trivial⟩ rfl rfl) rfl) ?_
            obtain ⟨h18, H⟩ := gif H
            refine seq_run2 (t_app tyL73 (fun _ => rfl) rfl rfl rfl ⟨by simp, by simpa using h18⟩ rfl) rfl ?_
            refine seq_run0 (stp_move (.dat _) rfl) ?_
            obtain ⟨l19, h20, H⟩ := bnd H
            refine seq_run0 (t_subS tyU9 rfl rfl rfl h20) ?_
            refine seq_run0 (stp_assign (.row _ _) rfl) ?_
            refine seq_run0 (stp_assign (.dat _) rfl) ?_
            refine ⟨rfl, ?_⟩
            exact ⟨_, backl H, ⟨rfl, rfl, trivial⟩, ⟨rfl, trivial⟩⟩
    · replace H := iff_ h5 H
      refine awp_exit ?_
      replace H := outl H hq4
      exact ⟨l3, H, ⟨rfl, trivial⟩, ⟨rfl, trivial⟩⟩
  · rintro out21 H
    replace H : gateref2_units_J1 out21 = some r := H
    unfold gateref2_units_J1 at H
    refine awp_seq ?_
    refine awp_plain hN rfl ?_
    refine seq_run0 (stp_move (.row _ _) rfl) ?_
    refine seq_run0 (stp_assign (.row _ _) rfl) ?_
    refine seq_run0 (stp_assign (.dat _) rfl) ?_
    refine awp_ret ?_
    cases H
    exact ⟨trivial, t_slotv rfl rfl, .inl rfl, trivial⟩
theorem k_strings_ReplaceAll (s p q : Bs) (r : Bs) (H : m_strings_ReplaceAll s p q = some r) : Fn Tryz.prog 45 [vstr s, vstr p, vstr q] (resOf [vstr r]) := by
  unfold m_strings_ReplaceAll at H
  obtain ⟨⟨h1, h2, h3⟩, h4⟩ := gif H
  cases h4
  refine fn_of_callsG (by kernel_rfl) fun M w vs hM h => ?_
  have hv := Ts_vals (us := [.string ⟨s.toArray⟩, .string ⟨p.toArray⟩, .string ⟨q.toArray⟩]) h
  subst hv
  obtain ⟨m, hm⟩ := maxLen_cell hM
  have hle := Lib.countB_le ⟨p.toArray⟩ (by simpa [ByteArray.size] using h2) _ ⟨s.toArray⟩ (Nat.le_refl _)
  have e1 : (ByteArray.mk s.toArray).size = s.length := by simp [ByteArray.size]
  have e2 : (ByteArray.mk q.toArray).size = q.length := by simp [ByteArray.size]
  have hmul : Lib.countB ⟨s.toArray⟩ ⟨p.toArray⟩ * q.length ≤ 1000001 * 1000000 := Nat.mul_le_mul (by omega) h3
  refine (Tryz.strings_ReplaceAll ⟨s.toArray⟩ ⟨p.toArray⟩ ⟨q.toArray⟩ m w (by rw [e1]; omega) hm (by simpa [ByteArray.size] using h2) (by rw [e1, e2]; omega)).mono ?_
  rintro e w' ⟨rfl, hb⟩
  exact ⟨_, rfl, rfl, Kp.of_below hb⟩

theorem k_gateref2_bytesOf (s1 : Bs) (r : (Bs)) (H : m_gateref2_bytesOf s1 = some r) : Fn Tryz.prog 46 [vstr s1] (resOf [vstr r]) := by
  refine ⟨by kernel_rfl, pure_of (us := [vstr r]) Tryz.func46 rfl rfl rfl rfl fun X hN => ?_⟩
  unfold m_gateref2_bytesOf at H
  refine awp_seq ?_
  refine awp_plain hN rfl ?_
  refine seq_run0 (stp_assign (.dat _) rfl) ?_
  refine awp_seq ?_
  refine awp_plain hN rfl ?_
  refine seq_run0 (stp_move (.dat _) rfl) ?_
  obtain ⟨r2, h3, H⟩ := bnd H
  refine seq_run0 (stp_call (k_gateref2_units s1 r2 h3) ⟨.inl rfl, trivial⟩) ?_
  refine seq_run0 (stp_move (.dat _) rfl) ?_
  refine seq_run0 (stp_ext rfl rfl) ?_
  refine seq_run0 (stp_ext rfl rfl) ?_
  refine seq_run0 (stp_assign (.dat _) rfl) ?_
  refine seq_run0 (stp_assign (.dat _) rfl) ?_
  refine awp_seq ?_
  refine awp_plain hN rfl ?_
  refine seq_run0 (stp_assign (.dat _) rfl) ?_
  refine awp_seq ?_
  refine awp_seq ?_
  refine awp_plain hN rfl ?_
  refine seq_run0 (stp_move (.dat _) rfl) ?_
  refine seq_run0 (t_len tyU73 rfl) ?_
  refine seq_run0 (stp_move (.dat _) rfl) ?_
  refine awp_block ?_
  refine awp_nilrow 5 1 5 1 rfl rfl rfl ?_
  obtain ⟨h7, H⟩ := gif H
  refine awp_forL (fun (k5 : Nat) (s : (List Int)) => [(5, .row 1 s.length), (13, .dat (vlst (List.map C_gateref2_unit r2.1))), (14, .dat (vint (r2.1.length : Int))), (15, .dat (vint (k5 : Int)))]) (fun (k5 : Nat) (s : (List Int)) => [(1, .row 5 1 (List.map C_uint8 s))]) [] H ⟨congrArg (Slot.row 1) (by simp), rfl, rfl, rfl, trivial⟩ ⟨rfl, trivial⟩ (fun _ _ => rfl) ?_ ?_
  · rintro l4 H
    replace H : gateref2_bytesOf_E1 l4 = some r := H
    unfold gateref2_bytesOf_E1 at H
    refine awp_seq ?_
    refine awp_plain hN rfl ?_
    refine seq_run0 (stp_lss rfl rfl) ?_
    refine awp_seq ?_
    refine awp_cond _ rfl (fun h => (lt_t h).elim) (fun h => ?_)
    refine awp_exit ?_
    refine awp_seq ?_
    refine t_freeze 5 1 rfl rfl rfl ?_
    refine awp_plain hN rfl ?_
    refine seq_run0 (stp_move (.dat _) rfl) ?_
    refine seq_run0 (stp_convB (C := C_uint8) tyU59 tyU5 tyU9 (fun _ => rfl) rfl) ?_
    refine seq_run0 (stp_assign (.dat _) rfl) ?_
    refine awp_ret ?_
    cases H
    exact ⟨trivial, .inl rfl, trivial⟩
  · rintro k5 x8 l4 q6 h9 h10 H hq6
    replace H : gateref2_bytesOf_L1 k5 x8 l4 = some q6 := H
    unfold gateref2_bytesOf_L1 at H
    refine awp_seq ?_
    refine awp_plain hN rfl ?_
    refine seq_run0 (stp_lss rfl rfl) ?_
    refine awp_seq ?_
    refine awp_cond _ rfl (fun h => ?_) (fun h => (lt_f h9 h).elim)
    refine awp_skip ?_
    refine awp_seq ?_
    refine awp_block ?_
    refine awp_seq ?_
    refine awp_plain hN rfl ?_
    refine seq_run0 (t_idx tyE73 (fun _ => rfl) rfl rfl h10) ?_
    refine seq_run0 (stp_loadEA tyS132 rfl (map_at h10) rfl) ?_
    refine seq_run2 (stp_alloc 2 tyZ132 rfl) rfl ?_
    refine seq_run2 (stp_storeW tyS132 rfl rfl rfl rfl) rfl ?_
    refine awp_plain hN rfl ?_
    refine seq_run0 (stp_move (.row _ _) rfl) ?_
    refine seq_run0 (stp_fldP tyF132_0 rfl) ?_
    refine seq_run1 (stp_load1 tyS5 rfl rfl) rfl ?_
    refine seq_run0 (stp_dat (u' := vlst (List.map C_uint8 [x8.c_])) (stp_lit [[_]] tyL59 ⟨rfl, .inl ⟨_, rfl, rfl, rfl⟩, rfl, trivial⟩ rfl rfl) rfl) ?_
    obtain ⟨h11, H⟩ := gif H
    refine seq_run2 (t_app tyL59 (fun _ => rfl) rfl rfl rfl ⟨by simp, by simpa using h11⟩ rfl) rfl ?_
    refine seq_run0 (stp_assign (.row _ _) rfl) ?_
    refine awp_plain hN rfl ?_
    refine seq_run0 (stp_add rfl rfl (by omega)) ?_
    refine seq_run0 (stp_move (.dat _) rfl) ?_
    exact ⟨_, backl H, ⟨rfl, rfl, rfl, rfl, trivial⟩, ⟨rfl, trivial⟩⟩
theorem k_gateref2_QueryOf (s1 : Bs) (r : ((List S_api_Pair) × Int)) (H : m_gateref2_QueryOf s1 = some r) : Fn Tryz.prog 11 [vstr s1] (resOf [vlst (List.map C_api_Pair r.1), vint r.2]) := by
  refine ⟨by kernel_rfl, pure_of (us := [vlst (List.map C_api_Pair r.1), vint r.2]) Tryz.func11 rfl rfl rfl rfl fun X hN => ?_⟩
  unfold m_gateref2_QueryOf at H
  refine awp_seq ?_
  refine awp_plain hN rfl ?_
  refine seq_run0 (stp_assign (.dat _) rfl) ?_
  refine seq_run0 (stp_assign (.dat _) rfl) ?_
  refine awp_seq ?_
  refine awp_seq ?_
  refine awp_plain hN rfl ?_
  refine seq_run0 (stp_move (.dat _) rfl) ?_
  obtain ⟨r2, h3, H⟩ := bnd H
  refine seq_run0 (stp_call (k_gateref2_queryForm s1 r2 h3) ⟨.inl rfl, trivial⟩) ?_
  refine seq_run0 (stp_not rfl) ?_
  refine awp_cond _ rfl (fun h4 => ?_) (fun h4 => ?_)
  · replace H := ift h4 H
    refine awp_seq ?_
    refine awp_plain hN rfl ?_
    refine seq_run0 (stp_assign (.dat _) rfl) ?_
    refine seq_run0 (stp_assign (.dat _) rfl) ?_
    refine awp_ret ?_
    cases H
    exact ⟨trivial, .inr ⟨rfl, rfl⟩, .inl rfl, trivial⟩
  · replace H := iff_ h4 H
    refine awp_skip ?_
    refine awp_seq ?_
    refine awp_seq ?_
    refine awp_plain hN rfl ?_
    refine seq_run0 (stp_move (.dat _) rfl) ?_
    obtain ⟨r5, h6, H⟩ := bnd H
    refine seq_run0 (stp_call (k_gateref2_units s1 r5 h6) ⟨.inl rfl, trivial⟩) ?_
    refine seq_run0 (stp_move (.dat _) rfl) ?_
    refine seq_run0 (stp_ext rfl rfl) ?_
    refine seq_run0 (stp_ext rfl rfl) ?_
    refine seq_run0 (stp_assign (.dat _) rfl) ?_
    refine seq_run0 (stp_assign (.dat _) rfl) ?_
    refine awp_seq ?_
    refine awp_plain hN rfl ?_
    refine seq_run0 (stp_move (.dat _) rfl) ?_
    refine seq_run0 (stp_not rfl) ?_
    refine awp_cond _ rfl (fun h7 => ?_) (fun h7 => ?_)
    · replace H := ift h7 H
      refine awp_seq ?_
      refine awp_plain hN rfl ?_
      refine seq_run0 (stp_assign (.dat _) rfl) ?_
      refine seq_run0 (stp_assign (.dat _) rfl) ?_
      refine awp_ret ?_
      cases H
      exact ⟨trivial, .inr ⟨rfl, rfl⟩, .inl rfl, trivial⟩
    · replace H := iff_ h7 H
      refine awp_skip ?_
      refine awp_seq ?_
      refine awp_plain hN rfl ?_
      refine seq_run0 (stp_assign (.dat _) rfl) ?_
      refine awp_seq ?_
      refine awp_seq ?_
      refine awp_plain hN rfl ?_
      refine seq_run0 (stp_move (.dat _) rfl) ?_
      obtain ⟨r8, h9, H⟩ := bnd H
      refine seq_run0 (stp_call (k_strings_Split s1 [38] r8 h9) ⟨.inl rfl, .inl rfl, trivial⟩) ?_
      refine seq_run0 (t_len tyU43 rfl) ?_
      refine seq_run0 (stp_move (.dat _) rfl) ?_
      refine awp_block ?_
      refine awp_nilrow 6 1 31 2 rfl rfl rfl ?_
      obtain ⟨h13, H⟩ := gif H
      refine awp_forL (fun (k11 : Nat) (s : (List S_api_Pair)) => [(6, .row 1 s.length), (23, .dat (vlst (List.map C_string r8))), (24, .dat (vint (r8.length : Int))), (25, .dat (vint (k11 : Int)))]) (fun (k11 : Nat) (s : (List S_api_Pair)) => [(1, .row 31 2 (List.map C_api_Pair s))]) [] H ⟨congrArg (Slot.row 1) (by simp), rfl, rfl, rfl, trivial⟩ ⟨rfl, trivial⟩ (fun _ _ => rfl) ?_ ?_
      · rintro l10 H
        replace H : gateref2_QueryOf_E1 l10 = some r := H
        unfold gateref2_QueryOf_E1 at H
        refine awp_seq ?_
        refine awp_plain hN rfl ?_
        refine seq_run0 (stp_lss rfl rfl) ?_
        refine awp_seq ?_
        refine awp_cond _ rfl (fun h => (lt_t h).elim) (fun h => ?_)
        refine awp_exit ?_
        refine awp_seq ?_
        refine awp_seq ?_
        refine awp_plain hN rfl ?_
        refine seq_run0 (stp_move (.row _ _) rfl) ?_
        refine seq_run1 (t_lenR tyU27 rfl rfl) rfl ?_
        refine seq_run0 (stp_gtr rfl rfl) ?_
        refine awp_cond _ rfl (fun h15 => ?_) (fun h15 => ?_)
        · replace H := ift h15 H
          refine awp_seq ?_
          refine awp_plain hN rfl ?_
          refine seq_run0 (stp_assign (.dat _) rfl) ?_
          refine seq_run0 (stp_assign (.dat _) rfl) ?_
          refine awp_ret ?_
          cases H
          exact ⟨trivial, .inr ⟨rfl, rfl⟩, .inl rfl, trivial⟩
        · replace H := iff_ h15 H
          refine awp_skip ?_
          refine awp_seq ?_
          refine awp_plain hN rfl ?_
          refine seq_run0 (stp_move (.row _ _) rfl) ?_
          refine seq_run0 (stp_assign (.row _ _) rfl) ?_
          refine seq_run0 (stp_assign (.dat _) rfl) ?_
          refine awp_ret ?_
          cases H
          exact ⟨trivial, t_slotv rfl rfl, .inl rfl, trivial⟩
      · rintro k11 x14 l10 q12 h16 h17 H hq12
        replace H : gateref2_QueryOf_L1 k11 x14 l10 = some q12 := H
        unfold gateref2_QueryOf_L1 at H
        refine awp_seq ?_
        refine awp_plain hN rfl ?_
        refine seq_run0 (stp_lss rfl rfl) ?_
        refine awp_seq ?_
        refine awp_cond _ rfl (fun h => ?_) (fun h => (lt_f h16 h).elim)
        refine awp_skip ?_
        refine awp_joinE (ι := (List S_api_Pair)) (fun i => [(6, .row 1 i.length), (23, .dat (vlst (List.map C_string r8))), (24, .dat (vint (r8.length : Int))), (25, .dat (vint (k11 : Int)))]) (fun i => [(1, .row 31 2 (List.map C_api_Pair i))]) (fun i => gateref2_QueryOf_J2 i = some q12) (fun i => rfl) ?_ ?_
        · skip
          refine awp_block ?_
          refine awp_seq ?_
          refine awp_plain hN rfl ?_
          refine seq_run0 (t_idx tyE43 (fun _ => rfl) rfl rfl h17) ?_
          refine seq_run0 (stp_loadE1 tyS9 rfl (map_at h17) rfl) ?_
          refine seq_run0 (stp_assign (.dat _) rfl) ?_
          refine awp_seq ?_
          refine awp_seq ?_
          refine awp_plain hN rfl ?_
          refine seq_run0 (stp_move (.dat _) rfl) ?_
          refine seq_run0 (stp_seql rfl rfl) ?_
          refine awp_cond _ rfl (fun h18 => ?_) (fun h18 => ?_)
          · replace H := ift h18 H
            refine awp_exit ?_
            exact ⟨l10, H, ⟨rfl, rfl, rfl, rfl, trivial⟩, ⟨rfl, trivial⟩⟩
          · replace H := iff_ h18 H
            refine awp_skip ?_
            refine awp_seq ?_
            refine awp_plain hN rfl ?_
            refine seq_run0 (stp_move (.dat _) rfl) ?_
            obtain ⟨r19, h20, H⟩ := bnd H
            refine seq_run0 (stp_call (k_strings_ReplaceAll x14 [43] [37, 50, 48] r19 h20) ⟨.inl rfl, .inl rfl, .inl rfl, trivial⟩) ?_
            obtain ⟨r21, h22, H⟩ := bnd H
            refine seq_run0 (stp_call (k_strings_Cut r19 [61] r21 h22) ⟨.inl rfl, .inl rfl, trivial⟩) ?_
            refine seq_run0 (stp_move (.dat _) rfl) ?_
            refine seq_run0 (stp_ext rfl rfl) ?_
            refine seq_run0 (stp_ext rfl rfl) ?_
            refine seq_run0 (stp_ext rfl rfl) ?_
            refine seq_run0 (stp_assign (.dat _) rfl) ?_
            refine seq_run0 (stp_assign (.dat _) rfl) ?_
            refine seq_run0 (stp_assign (.dat _) rfl) ?_
            refine awp_plain hN rfl ?_
            refine seq_run0 (stp_move (.row _ _) rfl) ?_
            refine seq_run0 (stp_move (.dat _) rfl) ?_
            obtain ⟨r23, h24, H⟩ := bnd H
            refine seq_run0 (stp_call (k_gateref2_bytesOf r21.1 r23 h24) ⟨.inl rfl, trivial⟩) ?_
            refine seq_run0 (stp_move (.dat _) rfl) ?_
            obtain ⟨r25, h26, H⟩ := bnd H
            refine seq_run0 (stp_call (k_gateref2_bytesOf r21.2.1 r25 h26) ⟨.inl rfl, trivial⟩) ?_
            refine seq_run0 (stp_dat (u' := vagg (C_api_Pair (S_api_Pair.mk r23 r25))) (stp_build [(0, [vstr r23]), (1, [vstr r25])] tyZ31 tyP31 rfl ⟨rfl, .inl ⟨_, rfl, rfl, rfl⟩, rfl, rfl, .inl ⟨_, rfl, rfl, rfl⟩, rfl, trivial⟩) rfl) ?_
            refine seq_run0 (stp_dat (u' := vlst (List.map C_api_Pair [(S_api_Pair.mk r23 r25)])) (stp_lit [_] tyL27 ⟨rfl, .inr rfl, rfl, trivial⟩ rfl rfl) rfl) ?_
            obtain ⟨h27, H⟩ := gif H
            refine seq_run2 (t_app tyL27 (fun _ => rfl) rfl rfl rfl ⟨by simp, by simpa using h27⟩ rfl) rfl ?_
            refine seq_run0 (stp_assign (.row _ _) rfl) ?_
            exact ⟨(l10 ++ [(S_api_Pair.mk r23 r25)]), H, ⟨rfl, rfl, rfl, rfl, trivial⟩, ⟨rfl, trivial⟩⟩
        · rintro out28 H
          replace H : gateref2_QueryOf_J2 out28 = some q12 := H
          unfold gateref2_QueryOf_J2 at H
          refine awp_plain hN rfl ?_
          refine seq_run0 (stp_add rfl rfl (by omega)) ?_
          refine seq_run0 (stp_move (.dat _) rfl) ?_
          exact ⟨_, backl H, ⟨rfl, rfl, rfl, rfl, trivial⟩, ⟨rfl, trivial⟩⟩
theorem k_message_isLetter (c1 : Int) (r : (Bool)) (H : m_message_isLetter c1 = some r) : Fn Tryz.prog 148 [vval (.int .u8 c1)] (resOf [vbool r]) := by
  refine ⟨by kernel_rfl, pure_of (us := [vbool r]) Tryz.func148 rfl rfl rfl rfl fun X hN => ?_⟩
  unfold m_message_isLetter at H
  refine awp_seq ?_
  refine awp_plain hN rfl ?_
  refine seq_run0 (stp_assign (.dat _) rfl) ?_
  refine awp_seq ?_
  refine awp_plain hN rfl ?_
  refine seq_run0 (stp_move (.dat _) rfl) ?_
  refine seq_run0 (stp_geq rfl rfl) ?_
  refine seq_run0 (stp_move (.dat _) rfl) ?_
  refine seq_aT rfl rfl (fun hc => stp_move (.dat _) rfl) ?_
  refine seq_aT rfl rfl (fun hc => stp_leq (cnd (c := (decide (97 ≤ c1))) hc) rfl) ?_
  refine seq_run0 (stp_pick_and rfl (fun hb => (cnd (c := (decide (97 ≤ c1))) hb)) rfl) ?_
  refine seq_run0 (stp_move (.dat _) rfl) ?_
  refine seq_aF rfl rfl (fun hc => stp_move (.dat _) rfl) ?_
  refine seq_aF rfl rfl (fun hc => stp_geq (cnd (c := (!((decide (97 ≤ c1)) && (decide (c1 ≤ 122))))) hc) rfl) ?_
  refine seq_aF rfl rfl (fun hc => stp_move (.dat _) (cnd (c := (!((decide (97 ≤ c1)) && (decide (c1 ≤ 122))))) hc)) ?_
  refine seq_bT rfl rfl (fun hc => stp_move (.dat _) rfl) ?_
  refine seq_bT rfl rfl (fun hc => stp_leq (cnd (c := ((!((decide (97 ≤ c1)) && (decide (c1 ≤ 122)))) && (decide (65 ≤ c1)))) hc) rfl) ?_
  refine seq_aF rfl rfl (fun hc => stp_pick_and (cnd (c := (!((decide (97 ≤ c1)) && (decide (c1 ≤ 122))))) hc) (fun hb => (cnd (c := ((!((decide (97 ≤ c1)) && (decide (c1 ≤ 122)))) && (decide (65 ≤ c1)))) (andI hc hb))) rfl) ?_
  refine seq_run0 (stp_pick_or rfl rfl (fun hb => (cnd (c := (!((decide (97 ≤ c1)) && (decide (c1 ≤ 122))))) (notI hb)))) ?_
  refine seq_run0 (stp_assign (.dat _) rfl) ?_
  refine awp_ret ?_
  cases H
  exact ⟨trivial, .inl rfl, trivial⟩
theorem k_strings_IndexByte (l : Bs) (c r : Int) (H : m_strings_IndexByte l c = some r) : Fn Tryz.prog 109 [vstr l, vval (.int .u8 c)] (resOf [vint r]) := by
  cases H
  refine fn_of_calls (by kernel_rfl) fun M w vs h => ?_
  have h1 := Ts_vals (us := [.string ⟨l.toArray⟩, .int .u8 c]) h
  subst h1
  refine (Tryz.strings_IndexByte ⟨l.toArray⟩ c w).mono ?_
  rintro e w' ⟨rfl, rfl⟩
  exact ⟨_, rfl, rfl, Kp.refl _ _⟩
theorem k_message_isFree (c1 : Int) (r : (Bool)) (H : m_message_isFree c1 = some r) : Fn Tryz.prog 105 [vval (.int .u8 c1)] (resOf [vbool r]) := by
  refine ⟨by kernel_rfl, pure_of (us := [vbool r]) Tryz.func105 rfl rfl rfl rfl fun X hN => ?_⟩
  unfold m_message_isFree at H
  refine awp_seq ?_
  refine awp_plain hN rfl ?_
  refine seq_run0 (stp_assign (.dat _) rfl) ?_
  refine awp_joinE (ι := Bool) (fun i => [(2, .dat (vbool i))]) (fun i => []) (fun i => message_isFree_J1 i = some r) (fun i => rfl) ?_ ?_
  · skip
    refine awp_plain hN rfl ?_
    refine seq_run0 (stp_move (.dat _) rfl) ?_
    obtain ⟨r2, h3, H⟩ := bnd H
    refine seq_run0 (stp_call (k_message_isLetter c1 r2 h3) ⟨.inl rfl, trivial⟩) ?_
    refine seq_run0 (stp_move (.dat _) rfl) ?_
    refine seq_split (j := 2) rfl rfl (fun h4 => ?_) (fun h4 => ?_) rfl
    · have h5 := un3 h4
      replace H := iff_ h5 H
      refine seq_g0 rfl rfl h4 (stp_move (.dat _) rfl) ?_
      obtain ⟨r6, h7, H⟩ := bnd H
      refine seq_g0 rfl rfl h4 (stp_call (k_message_isDigit c1 r6 h7) ⟨.inl rfl, trivial⟩) ?_
      refine seq_run0 (stp_pick_f rfl (bFF h5) rfl) ?_
      refine seq_run0 (stp_move (.dat _) rfl) ?_
      refine seq_split (j := 6) rfl rfl (fun h8 => ?_) (fun h8 => ?_) rfl
      · have h9 := un3 h8
        replace H := iff_ h9 H
        refine seq_g0 rfl rfl h8 (stp_move (.dat _) rfl) ?_
        obtain ⟨r10, h11, H⟩ := bnd H
        refine seq_g0 rfl rfl h8 (stp_call (k_strings_IndexByte [45, 46, 95, 126] c1 r10 h11) ⟨.inl rfl, .inl rfl, trivial⟩) ?_
        refine seq_g0 rfl rfl h8 (stp_geq rfl rfl) ?_
        refine seq_run0 (stp_pick_f rfl (bFF h9) rfl) ?_
        refine seq_run0 (stp_assign (.dat _) rfl) ?_
        exact ⟨decide (0 ≤ r10), H, ⟨rfl, trivial⟩, trivial⟩
      · have h12 := un4 h8
        replace H := ift h12 H
        refine seq_skip rfl rfl h8 ?_
        refine seq_skip rfl rfl h8 ?_
        refine seq_skip rfl rfl h8 ?_
        refine seq_run0 (stp_pick_t rfl (bTT h12) rfl) ?_
        refine seq_run0 (stp_assign (.dat _) rfl) ?_
        exact ⟨true, H, ⟨rfl, trivial⟩, trivial⟩
    · have h13 := un4 h4
      replace H := ift h13 H
      refine seq_skip rfl rfl h4 ?_
      refine seq_skip rfl rfl h4 ?_
      refine seq_run0 (stp_pick_t rfl (bTT h13) rfl) ?_
      refine seq_run0 (stp_move (.dat _) rfl) ?_
      refine seq_skip rfl rfl rfl ?_
      refine seq_skip rfl rfl rfl ?_
      refine seq_skip rfl rfl rfl ?_
      refine seq_run0 (stp_pick_t rfl rfl rfl) ?_
      refine seq_run0 (stp_assign (.dat _) rfl) ?_
      exact ⟨true, H, ⟨rfl, trivial⟩, trivial⟩
  · rintro v14 H
    replace H : message_isFree_J1 v14 = some r := H
    unfold message_isFree_J1 at H
    refine awp_ret ?_
    cases H
    exact ⟨trivial, .inl rfl, trivial⟩
theorem k_message_percent (c1 : Int) (r : (Bs)) (H : m_message_percent c1 = some r) : Fn Tryz.prog 107 [vval (.int .u8 c1)] (resOf [vstr r]) := by
  refine ⟨by kernel_rfl, pure_of (us := [vstr r]) Tryz.func107 rfl rfl rfl rfl fun X hN => ?_⟩
  unfold m_message_percent at H
  refine awp_seq ?_
  refine awp_plain hN rfl ?_
  refine seq_run0 (stp_assign (.dat _) rfl) ?_
  refine awp_seq ?_
  refine awp_draw mixed hN rfl rfl ?_
  refine seq_run0 (stp_move (.dat _) rfl) ?_
  refine seq_run0 (stp_dat (stp_shr rfl rfl (by decide)) rfl) ?_
  obtain ⟨x2, h3, H⟩ := bnd H
  refine seq_run0 (t_byteK tyU9 rfl rfl h3) ?_
  refine seq_run0 (stp_move (.dat _) rfl) ?_
  refine seq_run0 (stp_dat (stp_and rfl rfl) rfl) ?_
  obtain ⟨x4, h5, H⟩ := bnd H
  refine seq_run0 (t_byteK tyU9 rfl rfl h5) ?_
  refine seq_run0 (stp_dat (u' := vlst (List.map C_uint8 [37, (x2.toNat : Int), (x4.toNat : Int)])) (stp_lit [[_], [_], [_]] tyL59 ⟨rfl, .inl ⟨_, rfl, rfl, rfl⟩, rfl, rfl, .inl ⟨_, rfl, rfl, rfl⟩, rfl, rfl, .inl ⟨_, rfl, rfl, rfl⟩, rfl, trivial⟩ rfl rfl) rfl) ?_
  refine seq_run0 (stp_convB (C := C_uint8) tyU59 tyU5 tyU9 (fun _ => rfl) rfl) ?_
  refine seq_run0 (stp_assign (.dat _) rfl) ?_
  refine ⟨rfl, ?_⟩
  refine awp_ret ?_
  cases H
  exact ⟨trivial, .inl rfl, trivial⟩
theorem kb_strings_Builder_WriteString (l1 : (List Int)) (s2 : Bs) (r : (Int × Int × (List Int))) (H : m_strings_Builder_WriteString l1 s2 = some r) : FnG Tryz.prog 106 [.ptr 0 0, .dat (vstr s2)] [(0, .box (some 0) 124 [.nptr 0, .row 1 l1.length]), (1, .row 5 1 (List.map C_uint8 l1))] (.dat (resOf [vint r.1, verr r.2.1])) [(0, .box (some 0) 124 [.nptr 0, .row 900 r.2.2.length]), (900, .row 5 1 (List.map C_uint8 r.2.2))] := by
  refine fnG_of (by kernel_rfl) Tryz.func106 rfl rfl rfl rfl fun X A hN => ?_
  refine awp_cv ?_
  unfold m_strings_Builder_WriteString at H
  refine awp_seq ?_
  refine awp_plain hN rfl ?_
  refine seq_run0 (stp_assign (.dat _) rfl) ?_
  refine seq_run0 (stp_assign (.dat _) rfl) ?_
  refine awp_seq ?_
  refine awp_plain hN rfl ?_
  refine seq_run0 (stp_move (.ptr _ _) rfl) ?_
  refine seq_run2 (stp_cc cc_prog rfl) rfl ?_
  refine awp_seq ?_
  refine awp_plain hN rfl ?_
  refine seq_run0 (stp_move (.ptr _ _) rfl) ?_
  refine seq_run0 (stp_move (.ptr _ _) rfl) ?_
  refine seq_run0 (stp_nilP rfl) ?_
  refine seq_run0 (stp_fldP tyF124_1 rfl) ?_
  refine seq_run1 (stp_load1 tyS59 rfl rfl) rfl ?_
  refine seq_run0 (stp_move (.dat _) rfl) ?_
  obtain ⟨h3, H⟩ := gif H
  refine seq_run2 (t_appS (C := C_uint8) (fun _ => rfl) (show tyB8 Tryz.prog 59 9 5 from ⟨by kernel_rfl, by kernel_rfl, by kernel_rfl⟩) rfl rfl rfl h3) rfl ?_
  refine seq_run0 (stp_nilP rfl) ?_
  refine seq_run0 (stp_fldP tyF124_1 rfl) ?_
  refine seq_run4 (stp_storeS tyS59 rfl rfl (by rw [List.length_map]) rfl) rfl rfl ?_
  refine awp_seq ?_
  refine awp_plain hN rfl ?_
  refine seq_run0 (stp_move (.dat _) rfl) ?_
  refine seq_run0 (stp_len_str tyU9 rfl) ?_
  refine seq_run0 (stp_assign (.dat _) rfl) ?_
  refine seq_run0 (stp_assign (.dat _) rfl) ?_
  refine awp_ret ?_
  cases H
  show Cv _ _ _ _
  refine cv_ren (rn [(1, 900)]) [(4, .dat (vint (s2.length : Int))), (5, .dat (verr 0))] [(0, .box (some (A.bl 0)) 124 [.nptr 0, .row 1 ((l1 ++ numsB s2).length)]), (1, .row 5 1 (List.map C_uint8 (l1 ++ numsB s2)))] ⟨rfl, rfl, trivial⟩ ⟨rfl, rfl, trivial⟩ rfl rfl ?_
  exact ⟨trivial, [(4, .dat (vint (s2.length : Int))), (5, .dat (verr 0))], ⟨rfl, rfl, trivial⟩, ⟨rfl, rfl, trivial⟩, rfl, .inl ⟨[vint (s2.length : Int), verr 0], ⟨rfl, rfl, trivial⟩, rfl⟩⟩
theorem k_message_queryWord (s1 : Bs) (r : (Bs)) (H : m_message_queryWord s1 = some r) : Fn Tryz.prog 47 [vstr s1] (resOf [vstr r]) := by
  refine ⟨by kernel_rfl, pure_of (us := [vstr r]) Tryz.func47 rfl rfl rfl rfl fun X hN => ?_⟩
  unfold m_message_queryWord at H
  refine awp_seq ?_
  refine awp_plain hN rfl ?_
  refine seq_run0 (stp_assign (.dat _) rfl) ?_
  refine awp_seq ?_
  refine awp_plain hN rfl ?_
  refine seq_run2 (stp_alloc 1 tyZ124 rfl) rfl ?_
  refine awp_wkB 1 0 (.nptr 1) rfl rfl nptr_nil ?_
  refine awp_nilrowB 1 1 2 5 1 rfl rfl rfl rfl ?_
  refine awp_seq ?_
  refine awp_seq ?_
  refine awp_plain hN rfl ?_
  refine seq_run0 (stp_move (.dat _) rfl) ?_
  refine seq_run0 (stp_len_str tyU9 rfl) ?_
  refine seq_run0 (stp_move (.dat _) rfl) ?_
  refine awp_block ?_
  obtain ⟨h5, H⟩ := gif H
  refine awp_forL (fun (k3 : Nat) (s : (List Int)) => [(0, .dat (vstr s1)), (3, .ptr 1 0), (7, .dat (vint (s1.length : Int))), (8, .dat (vint (k3 : Int)))]) (fun (k3 : Nat) (s : (List Int)) => [(1, .box none 124 [.nptr 1, .row 2 s.length]), (2, .row 5 1 (List.map C_uint8 s))]) ([] : List Int) H ⟨rfl, rfl, rfl, rfl, trivial⟩ ⟨rfl, rfl, trivial⟩ (fun _ _ => rfl) ?_ ?_
  · rintro l2 H
    replace H : message_queryWord_E1 l2 = some r := H
    unfold message_queryWord_E1 at H
    refine awp_seq ?_
    refine awp_plain hN rfl ?_
    refine seq_run0 (stp_lss rfl rfl) ?_
    refine awp_seq ?_
    refine awp_cond _ rfl (fun h => (lt_t h).elim) (fun h => ?_)
    refine awp_exit ?_
    refine awp_seq ?_
    refine awp_plain hN rfl ?_
    obtain ⟨h7, H⟩ := gif H
    refine seq_callG (rn [(0, 1), (1, 2)]) [(0, _, _, none), (1, _, _, none)] [] (kbs_String h7 (C := C_uint8) (fun _ => rfl)) ⟨rfl, rfl, trivial⟩ ⟨.inl (.inl rfl), trivial⟩ ⟨⟨⟨rfl, rfl⟩, trivial⟩, ⟨⟨rfl, rfl, rfl⟩, trivial⟩, trivial⟩ rfl ?_
    refine seq_run0 (stp_assign (.dat _) rfl) ?_
    refine awp_ret ?_
    cases H
    exact ⟨trivial, .inl rfl, trivial⟩
  · rintro k3 x6 l2 q4 h8 h9 H hq4
    replace H : message_queryWord_L1 k3 x6 l2 = some q4 := H
    unfold message_queryWord_L1 at H
    refine awp_cv ?_
    refine awp_seq ?_
    refine awp_plain hN rfl ?_
    refine seq_run0 (stp_lss rfl rfl) ?_
    refine awp_seq ?_
    refine awp_cond _ rfl (fun h => ?_) (fun h => (lt_f h8 h).elim)
    refine awp_skip ?_
    refine awp_joinE (ι := (List Int)) (fun i => [(0, .dat (vstr s1)), (3, .ptr 1 0), (7, .dat (vint (s1.length : Int))), (8, .dat (vint (k3 : Int)))]) (fun i => [(1, .box none 124 [.nptr 1, .row 6 i.length]), (6, .row 5 1 (List.map C_uint8 i))]) (fun i => message_queryWord_J2 i = some q4) (fun i => rfl) ?_ ?_
    · refine awp_cv ?_
      refine awp_block ?_
      refine awp_seq ?_
      refine awp_plain hN rfl ?_
      refine seq_run0 (stp_move (.dat _) rfl) ?_
      refine seq_run0 (stp_assign (.dat _) rfl) ?_
      refine awp_seq ?_
      refine awp_plain hN rfl ?_
      refine seq_run0 (stp_move (.dat _) rfl) ?_
      refine seq_run0 (stp_move (.dat _) rfl) ?_
      refine seq_run0 (t_byte tyU9 rfl rfl h9) ?_
      refine seq_run0 (stp_assign (.dat _) rfl) ?_
      refine awp_block ?_
      refine awp_seq ?_
      refine awp_plain hN rfl ?_
      refine seq_run0 (stp_move (.dat _) rfl) ?_
      refine seq_run0 (stp_eql rfl rfl) ?_
      refine seq_run0 (stp_assign (.dat _) rfl) ?_
      refine awp_cond _ rfl (fun h10 => ?_) (fun h10 => ?_)
      · replace H := ift h10 H
        refine awp_plain hN rfl ?_
        obtain ⟨r11, h12, H⟩ := bnd H
        refine seq_callG (rn [(0, 1), (1, 2), (900, 3)]) [(0, _, _, some _), (1, _, _, none)] [(900, _)] (kb_strings_Builder_WriteByte l2 43 r11 h12) ⟨rfl, rfl, rfl, trivial⟩ ⟨.inl (.inl rfl), .inl (.inl rfl), trivial⟩ ⟨⟨⟨rfl, rfl⟩, trivial⟩, ⟨⟨rfl, rfl, rfl⟩, trivial⟩, trivial⟩ rfl ?_
        refine seq_end ?_
        show Cv _ _ _ _
        refine cv_ren (rn [(3, 6)]) [(0, .dat (vstr s1)), (3, .ptr 1 0), (7, .dat (vint (s1.length : Int))), (8, .dat (vint (k3 : Int)))] [(1, .box none 124 [.nptr 1, .row 3 r11.2.length]), (3, .row 5 1 (List.map C_uint8 r11.2))] ⟨rfl, rfl, rfl, rfl, trivial⟩ ⟨rfl, rfl, trivial⟩ rfl rfl ?_
        exact ⟨r11.2, H, ⟨rfl, rfl, rfl, rfl, trivial⟩, ⟨rfl, rfl, trivial⟩⟩
      · replace H := iff_ h10 H
        refine awp_seq ?_
        refine awp_plain hN rfl ?_
        refine seq_run0 (stp_move (.dat _) rfl) ?_
        obtain ⟨r13, h14, H⟩ := bnd H
        refine seq_run0 (stp_call (k_message_isFree (x6.toNat : Int) r13 h14) ⟨.inl rfl, trivial⟩) ?_
        refine seq_run0 (stp_assign (.dat _) rfl) ?_
        refine awp_cond _ rfl (fun h15 => ?_) (fun h15 => ?_)
        · replace H := ift h15 H
          refine awp_plain hN rfl ?_
          refine seq_run0 (stp_move (.dat _) rfl) ?_
          obtain ⟨r16, h17, H⟩ := bnd H
          refine seq_callG (rn [(0, 1), (1, 2), (900, 4)]) [(0, _, _, some _), (1, _, _, none)] [(900, _)] (kb_strings_Builder_WriteByte l2 (x6.toNat : Int) r16 h17) ⟨rfl, rfl, rfl, trivial⟩ ⟨.inl (.inl rfl), .inl (.inl rfl), trivial⟩ ⟨⟨⟨rfl, rfl⟩, trivial⟩, ⟨⟨rfl, rfl, rfl⟩, trivial⟩, trivial⟩ rfl ?_
          refine seq_end ?_
          show Cv _ _ _ _
          refine cv_ren (rn [(4, 6)]) [(0, .dat (vstr s1)), (3, .ptr 1 0), (7, .dat (vint (s1.length : Int))), (8, .dat (vint (k3 : Int)))] [(1, .box none 124 [.nptr 1, .row 4 r16.2.length]), (4, .row 5 1 (List.map C_uint8 r16.2))] ⟨rfl, rfl, rfl, rfl, trivial⟩ ⟨rfl, rfl, trivial⟩ rfl rfl ?_
          exact ⟨r16.2, H, ⟨rfl, rfl, rfl, rfl, trivial⟩, ⟨rfl, rfl, trivial⟩⟩
        · replace H := iff_ h15 H
          refine awp_plain hN rfl ?_
          refine seq_run0 (stp_move (.dat _) rfl) ?_
          obtain ⟨r18, h19, H⟩ := bnd H
          refine seq_run0 (stp_call (k_message_percent (x6.toNat : Int) r18 h19) ⟨.inl rfl, trivial⟩) ?_
          obtain ⟨r20, h21, H⟩ := bnd H
          refine seq_callG (rn [(0, 1), (1, 2), (900, 5)]) [(0, _, _, some _), (1, _, _, none)] [(900, _)] (kb_strings_Builder_WriteString l2 r18 r20 h21) ⟨rfl, rfl, rfl, trivial⟩ ⟨.inl (.inl rfl), .inl (.inl rfl), trivial⟩ ⟨⟨⟨rfl, rfl⟩, trivial⟩, ⟨⟨rfl, rfl, rfl⟩, trivial⟩, trivial⟩ rfl ?_
          refine seq_end ?_
          show Cv _ _ _ _
          refine cv_ren (rn [(5, 6)]) [(0, .dat (vstr s1)), (3, .ptr 1 0), (7, .dat (vint (s1.length : Int))), (8, .dat (vint (k3 : Int)))] [(1, .box none 124 [.nptr 1, .row 5 r20.2.2.length]), (5, .row 5 1 (List.map C_uint8 r20.2.2))] ⟨rfl, rfl, rfl, rfl, trivial⟩ ⟨rfl, rfl, trivial⟩ rfl rfl ?_
          exact ⟨r20.2.2, H, ⟨rfl, rfl, rfl, rfl, trivial⟩, ⟨rfl, rfl, trivial⟩⟩
    · rintro l22 H
      replace H : message_queryWord_J2 l22 = some q4 := H
      unfold message_queryWord_J2 at H
      refine awp_plain hN rfl ?_
      refine seq_run0 (stp_add rfl rfl (by omega)) ?_
      refine seq_run0 (stp_move (.dat _) rfl) ?_
      refine seq_end ?_
      show Cv _ _ _ _
      refine cv_ren (rn [(6, 2)]) [(0, .dat (vstr s1)), (3, .ptr 1 0), (7, .dat (vint (s1.length : Int))), (8, .dat (vint ((k3 : Int) + 1)))] [(1, .box none 124 [.nptr 1, .row 6 l22.length]), (6, .row 5 1 (List.map C_uint8 l22))] ⟨rfl, rfl, rfl, rfl, trivial⟩ ⟨rfl, rfl, trivial⟩ rfl rfl ?_
      exact ⟨_, backl H, ⟨rfl, rfl, rfl, rfl, trivial⟩, ⟨rfl, rfl, trivial⟩⟩
theorem k_message_QueryText (l1 : (List S_api_Pair)) (r : (Bs × Int)) (H : m_message_QueryText l1 = some r) : Fn Tryz.prog 12 [vlst (List.map C_api_Pair l1)] (resOf [vstr r.1, vint r.2]) := by
  refine ⟨by kernel_rfl, pure_of (us := [vstr r.1, vint r.2]) Tryz.func12 rfl rfl rfl rfl fun X hN => ?_⟩
  unfold m_message_QueryText at H
  refine awp_seq ?_
  refine awp_plain hN rfl ?_
  refine seq_run0 (stp_assign (.dat _) rfl) ?_
  refine seq_run0 (stp_assign (.dat _) rfl) ?_
  refine awp_seq ?_
  refine awp_seq ?_
  refine awp_plain hN rfl ?_
  refine seq_run0 (stp_move (.dat _) rfl) ?_
  refine seq_run0 (t_len tyU27 rfl) ?_
  refine seq_run0 (stp_gtr rfl rfl) ?_
  refine awp_cond _ rfl (fun h2 => ?_) (fun h2 => ?_)
  · replace H := ift h2 H
    refine awp_seq ?_
    refine awp_plain hN rfl ?_
    refine seq_run0 (stp_assign (.dat _) rfl) ?_
    refine seq_run0 (stp_assign (.dat _) rfl) ?_
    refine awp_ret ?_
    cases H
    exact ⟨trivial, .inl rfl, .inl rfl, trivial⟩
  · replace H := iff_ h2 H
    refine awp_skip ?_
    refine awp_seq ?_
    refine awp_plain hN rfl ?_
    refine seq_run0 (stp_assign (.dat _) rfl) ?_
    refine awp_seq ?_
    refine awp_seq ?_
    refine awp_plain hN rfl ?_
    refine seq_run0 (stp_move (.dat _) rfl) ?_
    refine seq_run0 (t_len tyU27 rfl) ?_
    refine seq_run0 (stp_move (.dat _) rfl) ?_
    refine awp_block ?_
    refine awp_nilrow 4 1 9 1 rfl rfl rfl ?_
    obtain ⟨h6, H⟩ := gif H
    refine awp_forL (fun (k4 : Nat) (s : (List Bs)) => [(4, .row 1 s.length), (11, .dat (vlst (List.map C_api_Pair l1))), (12, .dat (vint (l1.length : Int))), (13, .dat (vint (k4 : Int)))]) (fun (k4 : Nat) (s : (List Bs)) => [(1, .row 9 1 (List.map C_string s))]) [] H ⟨congrArg (Slot.row 1) (by simp), rfl, rfl, rfl, trivial⟩ ⟨rfl, trivial⟩ (fun _ _ => rfl) ?_ ?_
    · rintro l3 H
      replace H : message_QueryText_E1 l3 = some r := H
      unfold message_QueryText_E1 at H
      refine awp_seq ?_
      refine awp_plain hN rfl ?_
      refine seq_run0 (stp_lss rfl rfl) ?_
      refine awp_seq ?_
      refine awp_cond _ rfl (fun h => (lt_t h).elim) (fun h => ?_)
      refine awp_exit ?_
      refine awp_seq ?_
      refine t_freeze 4 1 rfl rfl rfl ?_
      refine awp_plain hN rfl ?_
      refine seq_run0 (stp_move (.dat _) rfl) ?_
      obtain ⟨r8, h9, H⟩ := bnd H
      refine seq_run0 (stp_call (k_strings_Join l3 [38] r8 h9) ⟨.inl rfl, .inl rfl, trivial⟩) ?_
      refine seq_run0 (stp_assign (.dat _) rfl) ?_
      refine awp_seq ?_
      refine awp_seq ?_
      refine awp_plain hN rfl ?_
      refine seq_run0 (stp_move (.dat _) rfl) ?_
      refine seq_run0 (stp_len_str tyU9 rfl) ?_
      refine seq_run0 (stp_gtr rfl rfl) ?_
      refine awp_cond _ rfl (fun h10 => ?_) (fun h10 => ?_)
      · replace H := ift h10 H
        refine awp_seq ?_
        refine awp_plain hN rfl ?_
        refine seq_run0 (stp_assign (.dat _) rfl) ?_
        refine seq_run0 (stp_assign (.dat _) rfl) ?_
        refine awp_ret ?_
        cases H
        exact ⟨trivial, .inl rfl, .inl rfl, trivial⟩
      · replace H := iff_ h10 H
        refine awp_skip ?_
        refine awp_seq ?_
        refine awp_plain hN rfl ?_
        refine seq_run0 (stp_move (.dat _) rfl) ?_
        refine seq_run0 (stp_assign (.dat _) rfl) ?_
        refine seq_run0 (stp_assign (.dat _) rfl) ?_
        refine awp_ret ?_
        cases H
        exact ⟨trivial, .inl rfl, .inl rfl, trivial⟩
    · rintro k4 x7 l3 q5 h11 h12 H hq5
      replace H : message_QueryText_L1 k4 x7 l3 = some q5 := H
      unfold message_QueryText_L1 at H
      refine awp_seq ?_
      refine awp_plain hN rfl ?_
      refine seq_run0 (stp_lss rfl rfl) ?_
      refine awp_seq ?_
      refine awp_cond _ rfl (fun h => ?_) (fun h => (lt_f h11 h).elim)
      refine awp_skip ?_
      refine awp_seq ?_
      refine awp_block ?_
      refine awp_seq ?_
      refine awp_plain hN rfl ?_
      refine seq_run0 (t_idx tyE27 (fun _ => rfl) rfl rfl h12) ?_
      refine seq_run0 (stp_loadEA tyS31 rfl (map_at h12) rfl) ?_
      refine seq_run2 (stp_alloc 2 tyZ31 rfl) rfl ?_
      refine seq_run2 (stp_storeW tyS31 rfl rfl rfl rfl) rfl ?_
      refine awp_seq ?_
      refine awp_seq ?_
      refine awp_plain hN rfl ?_
      refine seq_run1 (stp_loadA tyS31 rfl rfl rfl) rfl ?_
      refine seq_run0 (stp_dat (u' := vagg (C_api_Pair (S_api_Pair.mk [] []))) (stp_build [] tyZ31 tyP31 rfl trivial) rfl) ?_
      refine seq_run0 (stp_aeql [_, _] [_, _] tyQ31 rfl rfl rfl) ?_
      refine awp_cond _ rfl (fun h13 => ?_) (fun h13 => ?_)
      · replace H := ift h13 H
        refine awp_seq ?_
        refine awp_plain hN rfl ?_
        refine seq_run0 (stp_assign (.dat _) rfl) ?_
        refine seq_run0 (stp_assign (.dat _) rfl) ?_
        refine awp_ret ?_
        replace H := retl H hq5
        cases H
        exact ⟨trivial, .inl rfl, .inl rfl, trivial⟩
      · replace H := iff_ h13 H
        refine awp_skip ?_
        refine awp_draw mixed hN rfl rfl ?_
        refine seq_run0 (stp_move (.row _ _) rfl) ?_
        refine seq_run0 (stp_fldP tyF31_0 rfl) ?_
        refine seq_run1 (stp_load1 tyS9 rfl rfl) rfl ?_
        obtain ⟨r14, h15, H⟩ := bnd H
        refine seq_run0 (stp_call (k_message_queryWord x7.Name r14 h15) ⟨.inl rfl, trivial⟩) ?_
        obtain ⟨h16, H⟩ := gif H
        refine seq_run0 (stp_sadd rfl rfl (Nat.le_trans h16 (by decide))) ?_
        refine seq_run0 (stp_fldP tyF31_1 rfl) ?_
        refine seq_run1 (stp_load1 tyS9 rfl rfl) rfl ?_
        obtain ⟨r17, h18, H⟩ := bnd H
        refine seq_run0 (stp_call (k_message_queryWord x7.Value r17 h18) ⟨.inl rfl, trivial⟩) ?_
        obtain ⟨h19, H⟩ := gif H
        refine seq_run0 (stp_sadd rfl rfl (Nat.le_trans h19 (by decide))) ?_
        refine seq_run0 (stp_dat (u' := vlst (List.map C_string [((r14 ++ [61]) ++ r17)])) (stp_lit [[_]] tyL43 ⟨rfl, .inl ⟨_, rfl, rfl, rfl⟩, rfl, trivial⟩ rfl rfl) rfl) ?_
        obtain ⟨h20, H⟩ := gif H
        refine seq_run2 (t_app tyL43 (fun _ => rfl) rfl rfl rfl ⟨by simp, by simpa using h20⟩ rfl) rfl ?_
        refine seq_run0 (stp_assign (.row _ _) rfl) ?_
        refine ⟨rfl, ?_⟩
        refine awp_plain hN rfl ?_
        refine seq_run0 (stp_add rfl rfl (by omega)) ?_
        refine seq_run0 (stp_move (.dat _) rfl) ?_
        exact ⟨_, backl H, ⟨rfl, rfl, rfl, rfl, trivial⟩, ⟨rfl, trivial⟩⟩
theorem k_gateref2_digits0 (n1 : Int) (r : (Bs)) (H : m_gateref2_digits0 n1 = some r) : Fn Tryz.prog 152 [vval (.int .u8 n1)] (resOf [vstr r]) := by
  refine ⟨by kernel_rfl, pure_of (us := [vstr r]) Tryz.func152 rfl rfl rfl rfl fun X hN => ?_⟩
  unfold m_gateref2_digits0 at H
  refine awp_seq ?_
  refine awp_plain hN rfl ?_
  refine seq_run0 (stp_assign (.dat _) rfl) ?_
  refine awp_seq ?_
  refine awp_plain hN rfl ?_
  refine seq_run0 (stp_move (.dat _) rfl) ?_
  refine seq_run0 (stp_move (.dat _) rfl) ?_
  refine seq_run0 (stp_wrap _ rfl rfl (.inl ⟨rfl, rfl⟩)) ?_
  obtain ⟨l2, h3, H⟩ := bnd H
  refine seq_run0 (t_subSK tyU9 rfl rfl rfl h3) ?_
  refine seq_run0 (stp_assign (.dat _) rfl) ?_
  refine awp_ret ?_
  cases H
  exact ⟨trivial, .inl rfl, trivial⟩
theorem k_gateref2_coded (c1 : Int) (r : (Bs)) (H : m_gateref2_coded c1 = some r) : Fn Tryz.prog 110 [vval (.int .u8 c1)] (resOf [vstr r]) := by
  refine ⟨by kernel_rfl, pure_of (us := [vstr r]) Tryz.func110 rfl rfl rfl rfl fun X hN => ?_⟩
  unfold m_gateref2_coded at H
  refine awp_seq ?_
  refine awp_plain hN rfl ?_
  refine seq_run0 (stp_assign (.dat _) rfl) ?_
  refine awp_seq ?_
  refine awp_plain hN rfl ?_
  refine seq_run0 (stp_move (.dat _) rfl) ?_
  refine seq_run0 (stp_dat (stp_shr rfl rfl (by decide)) rfl) ?_
  obtain ⟨r2, h3, H⟩ := bnd H
  refine seq_run0 (stp_call (k_gateref2_digits0 (shr_ .u8 c1 4) r2 h3) ⟨.inl rfl, trivial⟩) ?_
  obtain ⟨h4, H⟩ := gif H
  refine seq_run0 (stp_sadd rfl rfl (Nat.le_trans h4 (by decide))) ?_
  refine seq_run0 (stp_move (.dat _) rfl) ?_
  refine seq_run0 (stp_dat (stp_and rfl rfl) rfl) ?_
  obtain ⟨r5, h6, H⟩ := bnd H
  refine seq_run0 (stp_call (k_gateref2_digits0 (and_ .u8 c1 15) r5 h6) ⟨.inl rfl, trivial⟩) ?_
  obtain ⟨h7, H⟩ := gif H
  refine seq_run0 (stp_sadd rfl rfl (Nat.le_trans h7 (by decide))) ?_
  refine seq_run0 (stp_assign (.dat _) rfl) ?_
  refine awp_ret ?_
  cases H
  exact ⟨trivial, .inl rfl, trivial⟩
theorem k_gateref2_queryPart (s1 : Bs) (r : (Bs)) (H : m_gateref2_queryPart s1 = some r) : Fn Tryz.prog 49 [vstr s1] (resOf [vstr r]) := by
  refine ⟨by kernel_rfl, pure_of (us := [vstr r]) Tryz.func49 rfl rfl rfl rfl fun X hN => ?_⟩
  unfold m_gateref2_queryPart at H
  refine awp_seq ?_
  refine awp_plain hN rfl ?_
  refine seq_run0 (stp_assign (.dat _) rfl) ?_
  refine awp_seq ?_
  refine awp_plain hN rfl ?_
  refine seq_run0 (stp_assign (.dat _) rfl) ?_
  refine awp_seq ?_
  refine awp_seq ?_
  refine awp_plain hN rfl ?_
  refine seq_run0 (stp_move (.dat _) rfl) ?_
  refine seq_run0 (stp_len_str tyU9 rfl) ?_
  refine seq_run0 (stp_move (.dat _) rfl) ?_
  refine awp_block ?_
  refine awp_nilrow 3 1 5 1 rfl rfl rfl ?_
  obtain ⟨h5, H⟩ := gif H
  refine awp_forL (fun (k3 : Nat) (s : (List Int)) => [(0, .dat (vstr s1)), (3, .row 1 s.length), (6, .dat (vint (s1.length : Int))), (7, .dat (vint (k3 : Int)))]) (fun (k3 : Nat) (s : (List Int)) => [(1, .row 5 1 (List.map C_uint8 s))]) [] H ⟨rfl, congrArg (Slot.row 1) (by simp), rfl, rfl, trivial⟩ ⟨rfl, trivial⟩ (fun _ _ => rfl) ?_ ?_
  · rintro l2 H
    replace H : gateref2_queryPart_E1 l2 = some r := H
    unfold gateref2_queryPart_E1 at H
    refine awp_seq ?_
    refine awp_plain hN rfl ?_
    refine seq_run0 (stp_lss rfl rfl) ?_
    refine awp_seq ?_
    refine awp_cond _ rfl (fun h => (lt_t h).elim) (fun h => ?_)
    refine awp_exit ?_
    refine awp_seq ?_
    refine t_freeze 3 1 rfl rfl rfl ?_
    refine awp_plain hN rfl ?_
    refine seq_run0 (stp_move (.dat _) rfl) ?_
    refine seq_run0 (stp_convB (C := C_uint8) tyU59 tyU5 tyU9 (fun _ => rfl) rfl) ?_
    refine seq_run0 (stp_assign (.dat _) rfl) ?_
    refine awp_ret ?_
    cases H
    exact ⟨trivial, .inl rfl, trivial⟩
  · rintro k3 x6 l2 q4 h7 h8 H hq4
    replace H : gateref2_queryPart_L1 k3 x6 l2 = some q4 := H
    unfold gateref2_queryPart_L1 at H
    refine awp_seq ?_
    refine awp_plain hN rfl ?_
    refine seq_run0 (stp_lss rfl rfl) ?_
    refine awp_seq ?_
    refine awp_cond _ rfl (fun h => ?_) (fun h => (lt_f h7 h).elim)
    refine awp_skip ?_
    refine awp_joinE (ι := (List Int)) (fun i => [(0, .dat (vstr s1)), (3, .row 1 i.length), (6, .dat (vint (s1.length : Int))), (7, .dat (vint (k3 : Int)))]) (fun i => [(1, .row 5 1 (List.map C_uint8 i))]) (fun i => gateref2_queryPart_J2 i = some q4) (fun i => rfl) ?_ ?_
    · skip
      refine awp_block ?_
      refine awp_seq ?_
      refine awp_plain hN rfl ?_
      refine seq_run0 (stp_move (.dat _) rfl) ?_
      refine seq_run0 (stp_assign (.dat _) rfl) ?_
      refine awp_block ?_
      refine awp_seq ?_
      refine awp_plain hN rfl ?_
      refine seq_run0 (stp_move (.dat _) rfl) ?_
      refine seq_run0 (stp_move (.dat _) rfl) ?_
      refine seq_run0 (t_byte tyU9 rfl rfl h8) ?_
      refine seq_run0 (stp_eql rfl rfl) ?_
      refine seq_run0 (stp_assign (.dat _) rfl) ?_
      refine awp_cond _ rfl (fun h9 => ?_) (fun h9 => ?_)
      · replace H := ift h9 H
        refine awp_plain hN rfl ?_
        refine seq_run0 (stp_move (.row _ _) rfl) ?_
        refine seq_run0 (stp_dat (u' := vlst (List.map C_uint8 [43])) (stp_lit [[_]] tyL59 ⟨rfl, .inl ⟨_, rfl, rfl, rfl⟩, rfl, trivial⟩ rfl rfl) rfl) ?_
        obtain ⟨h10, H⟩ := gif H
        refine seq_run2 (t_app tyL59 (fun _ => rfl) rfl rfl rfl ⟨by simp, by simpa using h10⟩ rfl) rfl ?_
        refine seq_run0 (stp_assign (.row _ _) rfl) ?_
        exact ⟨(l2 ++ [43]), H, ⟨rfl, rfl, rfl, rfl, trivial⟩, ⟨rfl, trivial⟩⟩
      · replace H := iff_ h9 H
        refine awp_seq ?_
        refine awp_plain hN rfl ?_
        refine seq_run0 (stp_move (.dat _) rfl) ?_
        refine seq_run0 (stp_move (.dat _) rfl) ?_
        refine seq_run0 (t_byte tyU9 rfl rfl h8) ?_
        obtain ⟨r11, h12, H⟩ := bnd H
        refine seq_run0 (stp_call (k_strings_IndexByte [97, 98, 99, 100, 101, 102, 103, 104, 105, 106, 107, 108, 109, 110, 111, 112, 113, 114, 115, 116, 117, 118, 119, 120, 121, 122, 65, 66, 67, 68, 69, 70, 71, 72, 73, 74, 75, 76, 77, 78, 79, 80, 81, 82, 83, 84, 85, 86, 87, 88, 89, 90, 48, 49, 50, 51, 52, 53, 54, 55, 56, 57, 45, 46, 95, 126] (x6.toNat : Int) r11 h12) ⟨.inl rfl, .inl rfl, trivial⟩) ?_
        refine seq_run0 (stp_geq rfl rfl) ?_
        refine seq_run0 (stp_assign (.dat _) rfl) ?_
        refine awp_cond _ rfl (fun h13 => ?_) (fun h13 => ?_)
        · replace H := ift h13 H
          refine awp_plain hN rfl ?_
          refine seq_run0 (stp_move (.row _ _) rfl) ?_
          refine seq_run0 (stp_move (.dat _) rfl) ?_
          refine seq_run0 (stp_move (.dat _) rfl) ?_
          refine seq_run0 (t_byte tyU9 rfl rfl h8) ?_
          refine seq_run0 (stp_dat (u' := vlst (List.map C_uint8 [(x6.toNat : Int)])) (stp_lit [[_]] tyL59 ⟨rfl, .inl ⟨_, rfl, rfl, rfl⟩, rfl, trivial⟩ rfl rfl) rfl) ?_
          obtain ⟨h14, H⟩ := gif H
          refine seq_run2 (t_app tyL59 (fun _ => rfl) rfl rfl rfl ⟨by simp, by simpa using h14⟩ rfl) rfl ?_
          refine seq_run0 (stp_assign (.row _ _) rfl) ?_
          exact ⟨(l2 ++ [(x6.toNat : Int)]), H, ⟨rfl, rfl, rfl, rfl, trivial⟩, ⟨rfl, trivial⟩⟩
        · replace H := iff_ h13 H
          refine awp_plain hN rfl ?_
          refine seq_run0 (stp_move (.row _ _) rfl) ?_
          refine seq_run0 (stp_move (.dat _) rfl) ?_
          refine seq_run0 (stp_move (.dat _) rfl) ?_
          refine seq_run0 (t_byte tyU9 rfl rfl h8) ?_
          obtain ⟨r15, h16, H⟩ := bnd H
          refine seq_run0 (stp_call (k_gateref2_coded (x6.toNat : Int) r15 h16) ⟨.inl rfl, trivial⟩) ?_
          obtain ⟨h17, H⟩ := gif H
          refine seq_run2 (t_appS (C := C_uint8) (fun _ => rfl) (show tyB8 Tryz.prog 59 9 5 from ⟨by kernel_rfl, by kernel_rfl, by kernel_rfl⟩) rfl rfl rfl h17) rfl ?_
          refine seq_run0 (stp_assign (.row _ _) rfl) ?_
          exact ⟨(l2 ++ numsB r15), H, ⟨rfl, rfl, rfl, rfl, trivial⟩, ⟨rfl, trivial⟩⟩
    · rintro out18 H
      replace H : gateref2_queryPart_J2 out18 = some q4 := H
      unfold gateref2_queryPart_J2 at H
      refine awp_plain hN rfl ?_
      refine seq_run0 (stp_add rfl rfl (by omega)) ?_
      refine seq_run0 (stp_move (.dat _) rfl) ?_
      exact ⟨_, backl H, ⟨rfl, rfl, rfl, rfl, trivial⟩, ⟨rfl, trivial⟩⟩
theorem k_gateref2_QueryFrom (l1 : (List S_api_Pair)) (r : (Bs × Int)) (H : m_gateref2_QueryFrom l1 = some r) : Fn Tryz.prog 13 [vlst (List.map C_api_Pair l1)] (resOf [vstr r.1, vint r.2]) := by
  refine ⟨by kernel_rfl, pure_of (us := [vstr r.1, vint r.2]) Tryz.func13 rfl rfl rfl rfl fun X hN => ?_⟩
  unfold m_gateref2_QueryFrom at H
  refine awp_seq ?_
  refine awp_plain hN rfl ?_
  refine seq_run0 (stp_assign (.dat _) rfl) ?_
  refine seq_run0 (stp_assign (.dat _) rfl) ?_
  refine awp_seq ?_
  refine awp_seq ?_
  refine awp_plain hN rfl ?_
  refine seq_run0 (stp_move (.dat _) rfl) ?_
  refine seq_run0 (t_len tyU27 rfl) ?_
  refine seq_run0 (stp_gtr rfl rfl) ?_
  refine awp_cond _ rfl (fun h2 => ?_) (fun h2 => ?_)
  · replace H := ift h2 H
    refine awp_seq ?_
    refine awp_plain hN rfl ?_
    refine seq_run0 (stp_assign (.dat _) rfl) ?_
    refine seq_run0 (stp_assign (.dat _) rfl) ?_
    refine awp_ret ?_
    cases H
    exact ⟨trivial, .inl rfl, .inl rfl, trivial⟩
  · replace H := iff_ h2 H
    refine awp_skip ?_
    refine awp_seq ?_
    refine awp_plain hN rfl ?_
    refine seq_run0 (stp_assign (.dat _) rfl) ?_
    refine awp_seq ?_
    refine awp_seq ?_
    refine awp_plain hN rfl ?_
    refine seq_run0 (stp_move (.dat _) rfl) ?_
    refine seq_run0 (t_len tyU27 rfl) ?_
    refine seq_run0 (stp_move (.dat _) rfl) ?_
    refine awp_block ?_
    refine awp_nilrow 4 1 9 1 rfl rfl rfl ?_
    obtain ⟨h6, H⟩ := gif H
    refine awp_forL (fun (k4 : Nat) (s : (List Bs)) => [(4, .row 1 s.length), (11, .dat (vlst (List.map C_api_Pair l1))), (12, .dat (vint (l1.length : Int))), (13, .dat (vint (k4 : Int)))]) (fun (k4 : Nat) (s : (List Bs)) => [(1, .row 9 1 (List.map C_string s))]) [] H ⟨congrArg (Slot.row 1) (by simp), rfl, rfl, rfl, trivial⟩ ⟨rfl, trivial⟩ (fun _ _ => rfl) ?_ ?_
    · rintro l3 H
      replace H : gateref2_QueryFrom_E1 l3 = some r := H
      unfold gateref2_QueryFrom_E1 at H
      refine awp_seq ?_
      refine awp_plain hN rfl ?_
      refine seq_run0 (stp_lss rfl rfl) ?_
      refine awp_seq ?_
      refine awp_cond _ rfl (fun h => (lt_t h).elim) (fun h => ?_)
      refine awp_exit ?_
      refine awp_seq ?_
      refine t_freeze 4 1 rfl rfl rfl ?_
      refine awp_plain hN rfl ?_
      refine seq_run0 (stp_move (.dat _) rfl) ?_
      obtain ⟨r8, h9, H⟩ := bnd H
      refine seq_run0 (stp_call (k_strings_Join l3 [38] r8 h9) ⟨.inl rfl, .inl rfl, trivial⟩) ?_
      refine seq_run0 (stp_assign (.dat _) rfl) ?_
      refine awp_seq ?_
      refine awp_seq ?_
      refine awp_plain hN rfl ?_
      refine seq_run0 (stp_move (.dat _) rfl) ?_
      refine seq_run0 (stp_len_str tyU9 rfl) ?_
      refine seq_run0 (stp_gtr rfl rfl) ?_
      refine awp_cond _ rfl (fun h10 => ?_) (fun h10 => ?_)
      · replace H := ift h10 H
        refine awp_seq ?_
        refine awp_plain hN rfl ?_
        refine seq_run0 (stp_assign (.dat _) rfl) ?_
        refine seq_run0 (stp_assign (.dat _) rfl) ?_
        refine awp_ret ?_
        cases H
        exact ⟨trivial, .inl rfl, .inl rfl, trivial⟩
      · replace H := iff_ h10 H
        refine awp_skip ?_
        refine awp_seq ?_
        refine awp_plain hN rfl ?_
        refine seq_run0 (stp_move (.dat _) rfl) ?_
        refine seq_run0 (stp_assign (.dat _) rfl) ?_
        refine seq_run0 (stp_assign (.dat _) rfl) ?_
        refine awp_ret ?_
        cases H
        exact ⟨trivial, .inl rfl, .inl rfl, trivial⟩
    · rintro k4 x7 l3 q5 h11 h12 H hq5
      replace H : gateref2_QueryFrom_L1 k4 x7 l3 = some q5 := H
      unfold gateref2_QueryFrom_L1 at H
      refine awp_seq ?_
      refine awp_plain hN rfl ?_
      refine seq_run0 (stp_lss rfl rfl) ?_
      refine awp_seq ?_
      refine awp_cond _ rfl (fun h => ?_) (fun h => (lt_f h11 h).elim)
      refine awp_skip ?_
      refine awp_seq ?_
      refine awp_block ?_
      refine awp_seq ?_
      refine awp_plain hN rfl ?_
      refine seq_run0 (t_idx tyE27 (fun _ => rfl) rfl rfl h12) ?_
      refine seq_run0 (stp_loadEA tyS31 rfl (map_at h12) rfl) ?_
      refine seq_run2 (stp_alloc 2 tyZ31 rfl) rfl ?_
      refine seq_run2 (stp_storeW tyS31 rfl rfl rfl rfl) rfl ?_
      refine awp_seq ?_
      refine awp_seq ?_
      refine awp_plain hN rfl ?_
      refine seq_run0 (stp_fldP tyF31_0 rfl) ?_
      refine seq_run1 (stp_load1 tyS9 rfl rfl) rfl ?_
      refine seq_run0 (stp_seql rfl rfl) ?_
      refine seq_run0 (stp_move (.dat _) rfl) ?_
      refine seq_aT rfl rfl (fun hc => stp_fldP tyF31_1 rfl) ?_
      refine seq_arT rfl rfl (fun hc => stp_load1 tyS9 (cnd (c := (decide (x7.Name = []))) hc) rfl) rfl anti_p ?_
      refine seq_aT rfl rfl (fun hc => stp_seql (cnd (c := (decide (x7.Name = []))) hc) rfl) ?_
      refine seq_run0 (stp_pick_and rfl (fun hb => (cnd (c := (decide (x7.Name = []))) hb)) rfl) ?_
      refine awp_cond _ rfl (fun h13 => ?_) (fun h13 => ?_)
      · replace H := ift h13 H
        refine awp_seq ?_
        refine awp_plain hN rfl ?_
        refine seq_run0 (stp_assign (.dat _) rfl) ?_
        refine seq_run0 (stp_assign (.dat _) rfl) ?_
        refine awp_ret ?_
        replace H := retl H hq5
        cases H
        exact ⟨trivial, .inl rfl, .inl rfl, trivial⟩
      · replace H := iff_ h13 H
        refine awp_skip ?_
        refine awp_draw mixed hN rfl rfl ?_
        refine seq_run0 (stp_move (.row _ _) rfl) ?_
        refine seq_run0 (stp_fldP tyF31_0 rfl) ?_
        refine seq_run1 (stp_load1 tyS9 rfl rfl) rfl ?_
        obtain ⟨r14, h15, H⟩ := bnd H
        refine seq_run0 (stp_call (k_gateref2_queryPart x7.Name r14 h15) ⟨.inl rfl, trivial⟩) ?_
        obtain ⟨h16, H⟩ := gif H
        refine seq_run0 (stp_sadd rfl rfl (Nat.le_trans h16 (by decide))) ?_
        refine seq_run0 (stp_fldP tyF31_1 rfl) ?_
        refine seq_run1 (stp_load1 tyS9 rfl rfl) rfl ?_
        obtain ⟨r17, h18, H⟩ := bnd H
        refine seq_run0 (stp_call (k_gateref2_queryPart x7.Value r17 h18) ⟨.inl rfl, trivial⟩) ?_
        obtain ⟨h19, H⟩ := gif H
        refine seq_run0 (stp_sadd rfl rfl (Nat.le_trans h19 (by decide))) ?_
        refine seq_run0 (stp_dat (u' := vlst (List.map C_string [((r14 ++ [61]) ++ r17)])) (stp_lit [[_]] tyL43 ⟨rfl, .inl ⟨_, rfl, rfl, rfl⟩, rfl, trivial⟩ rfl rfl) rfl) ?_
        obtain ⟨h20, H⟩ := gif H
        refine seq_run2 (t_app tyL43 (fun _ => rfl) rfl rfl rfl ⟨by simp, by simpa using h20⟩ rfl) rfl ?_
        refine seq_run0 (stp_assign (.row _ _) rfl) ?_
        refine ⟨rfl, ?_⟩
        refine awp_plain hN rfl ?_
        refine seq_run0 (stp_add rfl rfl (by omega)) ?_
        refine seq_run0 (stp_move (.dat _) rfl) ?_
        exact ⟨_, backl H, ⟨rfl, rfl, rfl, rfl, trivial⟩, ⟨rfl, trivial⟩⟩
theorem k_slices_Equal_L_api_Pair_api_Pair_ (s1 : (List S_api_Pair)) (s2 : (List S_api_Pair)) (r : (Bool)) (H : m_slices_Equal_L_api_Pair_api_Pair_ s1 s2 = some r) : Fn Tryz.prog 14 [vlst (List.map C_api_Pair s1), vlst (List.map C_api_Pair s2)] (resOf [vbool r]) := by
  refine ⟨by kernel_rfl, pure_of (us := [vbool r]) Tryz.func14 rfl rfl rfl rfl fun X hN => ?_⟩
  unfold m_slices_Equal_L_api_Pair_api_Pair_ at H
  refine awp_seq ?_
  refine awp_plain hN rfl ?_
  refine seq_run0 (stp_assign (.dat _) rfl) ?_
  refine awp_seq ?_
  refine awp_seq ?_
  refine awp_plain hN rfl ?_
  refine seq_run0 (stp_move (.dat _) rfl) ?_
  refine seq_run0 (t_len tyU27 rfl) ?_
  refine seq_run0 (stp_move (.dat _) rfl) ?_
  refine seq_run0 (t_len tyU27 rfl) ?_
  refine seq_run0 (stp_neq rfl rfl) ?_
  refine awp_cond _ rfl (fun h3 => ?_) (fun h3 => ?_)
  · replace H := ift h3 H
    refine awp_seq ?_
    refine awp_plain hN rfl ?_
    refine seq_run0 (stp_assign (.dat _) rfl) ?_
    refine awp_ret ?_
    cases H
    exact ⟨trivial, .inl rfl, trivial⟩
  · replace H := iff_ h3 H
    refine awp_skip ?_
    refine awp_seq ?_
    refine awp_seq ?_
    refine awp_plain hN rfl ?_
    refine seq_run0 (stp_move (.dat _) rfl) ?_
    refine seq_run0 (t_len tyU27 rfl) ?_
    refine seq_run0 (stp_move (.dat _) rfl) ?_
    refine awp_block ?_
    obtain ⟨h6, H⟩ := gif H
    refine awp_forL (fun (k4 : Nat) (s : Unit) => [(0, .dat (vlst (List.map C_api_Pair s1))), (1, .dat (vlst (List.map C_api_Pair s2))), (12, .dat (vint (s1.length : Int))), (13, .dat (vint (k4 : Int)))]) (fun (k4 : Nat) (s : Unit) => []) () H ⟨rfl, rfl, rfl, rfl, trivial⟩ trivial (fun _ _ => rfl) ?_ ?_
    · rintro ⟨⟩ H
      replace H : slices_Equal_L_api_Pair_api_Pair__E1 = some r := H
      unfold slices_Equal_L_api_Pair_api_Pair__E1 at H
      refine awp_seq ?_
      refine awp_plain hN rfl ?_
      refine seq_run0 (stp_lss rfl rfl) ?_
      refine awp_seq ?_
      refine awp_cond _ rfl (fun h => (lt_t h).elim) (fun h => ?_)
      refine awp_exit ?_
      refine awp_seq ?_
      refine awp_plain hN rfl ?_
      refine seq_run0 (stp_assign (.dat _) rfl) ?_
      refine awp_ret ?_
      cases H
      exact ⟨trivial, .inl rfl, trivial⟩
    · rintro k4 x7 ⟨⟩ q5 h8 h9 H hq5
      replace H : slices_Equal_L_api_Pair_api_Pair__L1 s2 k4 x7 = some q5 := H
      unfold slices_Equal_L_api_Pair_api_Pair__L1 at H
      refine awp_seq ?_
      refine awp_plain hN rfl ?_
      refine seq_run0 (stp_lss rfl rfl) ?_
      refine awp_seq ?_
      refine awp_cond _ rfl (fun h => ?_) (fun h => (lt_f h8 h).elim)
      refine awp_skip ?_
      refine awp_seq ?_
      refine awp_block ?_
      refine awp_seq ?_
      refine awp_plain hN rfl ?_
      refine seq_run0 (stp_move (.dat _) rfl) ?_
      refine seq_run0 (stp_assign (.dat _) rfl) ?_
      refine awp_seq ?_
      refine awp_draw mixed hN rfl rfl ?_
      refine seq_run0 (stp_move (.dat _) rfl) ?_
      refine seq_run0 (stp_move (.dat _) rfl) ?_
      refine seq_run0 (t_idx tyE27 (fun _ => rfl) rfl rfl h9) ?_
      refine seq_run0 (stp_loadEA tyS31 rfl (map_at h9) rfl) ?_
      refine seq_run0 (stp_move (.dat _) rfl) ?_
      refine seq_run0 (stp_move (.dat _) rfl) ?_
      obtain ⟨x10, h11, H⟩ := bnd H
      refine seq_run0 (t_idx tyE27 (fun _ => rfl) rfl rfl h11) ?_
      refine seq_run0 (stp_loadEA tyS31 rfl (map_at h11) rfl) ?_
      refine seq_run0 (stp_aneq [_, _] [_, _] tyQ31 rfl rfl rfl) ?_
      refine ⟨rfl, ?_⟩
      refine awp_cond _ rfl (fun h12 => ?_) (fun h12 => ?_)
      · replace H := ift h12 H
        refine awp_seq ?_
        refine awp_plain hN rfl ?_
        refine seq_run0 (stp_assign (.dat _) rfl) ?_
        refine awp_ret ?_
        replace H := retl H hq5
        cases H
        exact ⟨trivial, .inl rfl, trivial⟩
      · replace H := iff_ h12 H
        refine awp_skip ?_
        refine awp_plain hN rfl ?_
        refine seq_run0 (stp_add rfl rfl (by omega)) ?_
        refine seq_run0 (stp_move (.dat _) rfl) ?_
        exact ⟨_, backl H, ⟨rfl, rfl, rfl, rfl, trivial⟩, trivial⟩
theorem k_strings_HasPrefix (s p : Bs) (r : Bool) (H : m_strings_HasPrefix s p = some r) : Fn Tryz.prog 153 [vstr s, vstr p] (resOf [vbool r]) := by
  cases H
  refine fn_of_calls (by kernel_rfl) fun M w vs h => ?_
  have h1 := Ts_vals (us := [.string ⟨s.toArray⟩, .string ⟨p.toArray⟩]) h
  subst h1
  refine (Tryz.strings_HasPrefix ⟨s.toArray⟩ ⟨p.toArray⟩ w).mono ?_
  rintro e w' ⟨rfl, rfl⟩
  exact ⟨_, rfl, rfl, Kp.refl _ _⟩
theorem k_strings_ContainsAny (s p : Bs) (r : Bool) (H : m_strings_ContainsAny s p = some r) : Fn Tryz.prog 154 [vstr s, vstr p] (resOf [vbool r]) := by
  unfold m_strings_ContainsAny at H
  obtain ⟨⟨⟨h1, h2⟩, h3, h4⟩, h5⟩ := gif H
  cases h5
  refine fn_of_callsG (by kernel_rfl) fun M w vs hM h => ?_
  have hv := Ts_vals (us := [.string ⟨s.toArray⟩, .string ⟨p.toArray⟩]) h
  subst hv
  refine (Tryz.strings_ContainsAny_laid ⟨s.toArray⟩ ⟨p.toArray⟩ w (by simp [ByteArray.size]; omega) (by simp [ByteArray.size]; omega) (fun j b hb => ascB_at h3 j b (by simpa using hb)) (fun j b hb => ascB_at h4 j b (by simpa using hb))).mono ?_
  rintro e w' ⟨rfl, hb⟩
  exact ⟨_, rfl, rfl, Kp.of_below hb⟩

theorem k_message_PathFault (s1 : Bs) (r : (Int)) (H : m_message_PathFault s1 = some r) : Fn Tryz.prog 111 [vstr s1] (resOf [vint r]) := by
  refine ⟨by kernel_rfl, pure_of (us := [vint r]) Tryz.func111 rfl rfl rfl rfl fun X hN => ?_⟩
  unfold m_message_PathFault at H
  refine awp_seq ?_
  refine awp_plain hN rfl ?_
  refine seq_run0 (stp_assign (.dat _) rfl) ?_
  refine awp_seq ?_
  refine awp_joinE (ι := Bool) (fun i => [(19, .dat (vbool i))]) (fun i => []) (fun i => message_PathFault_J1 i = some r) (fun i => rfl) ?_ ?_
  · skip
    refine awp_plain hN rfl ?_
    refine seq_run0 (stp_move (.dat _) rfl) ?_
    refine seq_run0 (stp_len_str tyU9 rfl) ?_
    refine seq_run0 (stp_gtr rfl rfl) ?_
    refine seq_run0 (stp_move (.dat _) rfl) ?_
    refine seq_split (j := 3) rfl rfl (fun h2 => ?_) (fun h2 => ?_) rfl
    · have h3 := un3 h2
      replace H := iff_ h3 H
      refine seq_g0 rfl rfl h2 (stp_move (.dat _) rfl) ?_
      obtain ⟨r4, h5, H⟩ := bnd H
      refine seq_g0 rfl rfl h2 (stp_call (k_strings_HasPrefix s1 [47] r4 h5) ⟨.inl rfl, .inl rfl, trivial⟩) ?_
      refine seq_g0 rfl rfl h2 (stp_not rfl) ?_
      refine seq_run0 (stp_pick_f rfl (bFF h3) rfl) ?_
      refine seq_run0 (stp_move (.dat _) rfl) ?_
      refine seq_split (j := 8) rfl rfl (fun h6 => ?_) (fun h6 => ?_) rfl
      · have h7 := un3 h6
        replace H := iff_ h7 H
        refine seq_g0 rfl rfl h6 (stp_move (.dat _) rfl) ?_
        obtain ⟨r8, h9, H⟩ := bnd H
        refine seq_g0 rfl rfl h6 (stp_call (k_message_isRange s1 33 126 r8 h9) ⟨.inl rfl, .inl rfl, .inl rfl, trivial⟩) ?_
        refine seq_g0 rfl rfl h6 (stp_not rfl) ?_
        refine seq_run0 (stp_pick_f rfl (bFF h7) rfl) ?_
        refine seq_run0 (stp_move (.dat _) rfl) ?_
        refine seq_split (j := 13) rfl rfl (fun h10 => ?_) (fun h10 => ?_) rfl
        · have h11 := un3 h10
          replace H := iff_ h11 H
          refine seq_g0 rfl rfl h10 (stp_move (.dat _) rfl) ?_
          obtain ⟨r12, h13, H⟩ := bnd H
          refine seq_g0 rfl rfl h10 (stp_call (k_strings_ContainsAny s1 [63, 35] r12 h13) ⟨.inl rfl, .inl rfl, trivial⟩) ?_
          refine seq_run0 (stp_pick_f rfl (bFF h11) rfl) ?_
          exact ⟨r12, H, ⟨rfl, trivial⟩, trivial⟩
        · have h14 := un4 h10
          replace H := ift h14 H
          refine seq_skip rfl rfl h10 ?_
          refine seq_skip rfl rfl h10 ?_
          refine seq_run0 (stp_pick_t rfl (bTT h14) rfl) ?_
          exact ⟨true, H, ⟨rfl, trivial⟩, trivial⟩
      · have h15 := un4 h6
        replace H := ift h15 H
        refine seq_skip rfl rfl h6 ?_
        refine seq_skip rfl rfl h6 ?_
        refine seq_skip rfl rfl h6 ?_
        refine seq_run0 (stp_pick_t rfl (bTT h15) rfl) ?_
        refine seq_run0 (stp_move (.dat _) rfl) ?_
        refine seq_skip rfl rfl rfl ?_
        refine seq_skip rfl rfl rfl ?_
        refine seq_run0 (stp_pick_t rfl rfl rfl) ?_
        exact ⟨true, H, ⟨rfl, trivial⟩, trivial⟩
    · have h16 := un4 h2
      replace H := ift h16 H
      refine seq_skip rfl rfl h2 ?_
      refine seq_skip rfl rfl h2 ?_
      refine seq_skip rfl rfl h2 ?_
      refine seq_run0 (stp_pick_t rfl (bTT h16) rfl) ?_
      refine seq_run0 (stp_move (.dat _) rfl) ?_
      refine seq_skip rfl rfl rfl ?_
      refine seq_skip rfl rfl rfl ?_
      refine seq_skip rfl rfl rfl ?_
      refine seq_run0 (stp_pick_t rfl rfl rfl) ?_
      refine seq_run0 (stp_move (.dat _) rfl) ?_
      refine seq_skip rfl rfl rfl ?_
      refine seq_skip rfl rfl rfl ?_
      refine seq_run0 (stp_pick_t rfl rfl rfl) ?_
      exact ⟨true, H, ⟨rfl, trivial⟩, trivial⟩
  · rintro v17 H
    replace H : message_PathFault_J1 v17 = some r := H
    unfold message_PathFault_J1 at H
    refine awp_cond _ rfl (fun h18 => ?_) (fun h18 => ?_)
    · replace H := ift h18 H
      refine awp_seq ?_
      refine awp_plain hN rfl ?_
      refine seq_run0 (stp_assign (.dat _) rfl) ?_
      refine awp_ret ?_
      cases H
      exact ⟨trivial, .inl rfl, trivial⟩
    · replace H := iff_ h18 H
      refine awp_skip ?_
      refine awp_seq ?_
      refine awp_plain hN rfl ?_
      refine seq_run0 (stp_assign (.dat _) rfl) ?_
      refine awp_ret ?_
      cases H
      exact ⟨trivial, .inl rfl, trivial⟩
theorem k_message_normalUnits (s1 : Bs) (r : (Bs × Bool)) (H : m_message_normalUnits s1 = some r) : Fn Tryz.prog 112 [vstr s1] (resOf [vstr r.1, vbool r.2]) := by
  refine ⟨by kernel_rfl, pure_of (us := [vstr r.1, vbool r.2]) Tryz.func112 rfl rfl rfl rfl fun X hN => ?_⟩
  unfold m_message_normalUnits at H
  refine awp_seq ?_
  refine awp_plain hN rfl ?_
  refine seq_run0 (stp_assign (.dat _) rfl) ?_
  refine seq_run0 (stp_assign (.dat _) rfl) ?_
  refine awp_seq ?_
  refine awp_plain hN rfl ?_
  refine seq_run2 (stp_alloc 1 tyZ124 rfl) rfl ?_
  refine awp_wkB 1 0 (.nptr 1) rfl rfl nptr_nil ?_
  refine awp_nilrowB 1 1 2 5 1 rfl rfl rfl rfl ?_
  refine awp_joinE (ι := (List Int)) (fun i => [(4, .ptr 1 0)]) (fun i => [(1, .box none 124 [.nptr 1, .row 2 i.length]), (2, .row 5 1 (List.map C_uint8 i))]) (fun i => message_normalUnits_J1 i = some r) (fun i => rfl) ?_ ?_
  · refine awp_cv ?_
    refine awp_seq ?_
    refine awp_plain hN rfl ?_
    refine seq_run0 (stp_assign (.dat _) rfl) ?_
    refine awp_block ?_
    refine awp_iter (fun (s : Int × (List Int)) => [(0, .dat (vstr s1)), (4, .ptr 1 0), (5, .dat (vint s.1))]) (fun (s : Int × (List Int)) => [(1, .box none 124 [.nptr 1, .row 2 s.2.length]), (2, .row 5 1 (List.map C_uint8 s.2))]) (0, ([] : List Int)) H ⟨rfl, rfl, rfl, trivial⟩ ⟨rfl, rfl, trivial⟩ (fun _ => rfl) ?_
    rintro ⟨i2, l3⟩ q4 H hq4
    replace H : message_normalUnits_L2 s1 i2 l3 = some q4 := H
    unfold message_normalUnits_L2 at H
    refine awp_cv ?_
    refine awp_seq ?_
    refine awp_seq ?_
    refine awp_plain hN rfl ?_
    refine seq_run0 (stp_move (.dat _) rfl) ?_
    refine seq_run0 (stp_move (.dat _) rfl) ?_
    refine seq_run0 (stp_len_str tyU9 rfl) ?_
    refine seq_run0 (stp_lss rfl rfl) ?_
    refine awp_cond _ rfl (fun h5 => ?_) (fun h5 => ?_)
    · replace H := ift h5 H
      refine awp_skip ?_
      refine awp_joinE (ι := Int × (List Int)) (fun i => [(0, .dat (vstr s1)), (4, .ptr 1 0), (5, .dat (vint i.1))]) (fun i => [(1, .box none 124 [.nptr 1, .row 7 i.2.length]), (7, .row 5 1 (List.map C_uint8 i.2))]) (fun i => message_normalUnits_J3 i.1 i.2 = some q4) (fun i => rfl) ?_ ?_
      · refine awp_cv ?_
        refine awp_block ?_
        refine awp_seq ?_
        refine awp_seq ?_
        refine awp_plain hN rfl ?_
        refine seq_run0 (stp_move (.dat _) rfl) ?_
        refine seq_run0 (stp_move (.dat _) rfl) ?_
        obtain ⟨x6, h7, H⟩ := bnd H
        refine seq_run0 (t_byteI tyU9 rfl rfl h7) ?_
        refine seq_run0 (stp_neq rfl rfl) ?_
        refine awp_cond _ rfl (fun h8 => ?_) (fun h8 => ?_)
        · replace H := ift h8 H
          refine awp_seq ?_
          refine awp_plain hN rfl ?_
          refine seq_run0 (stp_move (.dat _) rfl) ?_
          refine seq_run0 (stp_move (.dat _) rfl) ?_
          refine seq_run0 (t_byteI tyU9 rfl rfl h7) ?_
          obtain ⟨r9, h10, H⟩ := bnd H
          refine seq_callG (rn [(0, 1), (1, 2), (900, 3)]) [(0, _, _, some _), (1, _, _, none)] [(900, _)] (kb_strings_Builder_WriteByte l3 (x6.toNat : Int) r9 h10) ⟨rfl, rfl, rfl, trivial⟩ ⟨.inl (.inl rfl), .inl (.inl rfl), trivial⟩ ⟨⟨⟨rfl, rfl⟩, trivial⟩, ⟨⟨rfl, rfl, rfl⟩, trivial⟩, trivial⟩ rfl ?_
          refine awp_exit ?_
          show Cv _ _ _ _
          refine cv_ren (rn [(3, 7)]) [(0, .dat (vstr s1)), (4, .ptr 1 0), (5, .dat (vint i2))] [(1, .box none 124 [.nptr 1, .row 3 r9.2.length]), (3, .row 5 1 (List.map C_uint8 r9.2))] ⟨rfl, rfl, rfl, trivial⟩ ⟨rfl, rfl, trivial⟩ rfl rfl ?_
          exact ⟨(i2, r9.2), H, ⟨rfl, rfl, rfl, trivial⟩, ⟨rfl, rfl, trivial⟩⟩
        · replace H := iff_ h8 H
          refine awp_skip ?_
          refine awp_seq ?_
          refine awp_seq ?_
          refine awp_plain hN rfl ?_
          refine seq_run0 (stp_move (.dat _) rfl) ?_
          refine seq_run0 (stp_move (.dat _) rfl) ?_
          obtain ⟨r11, h12, H⟩ := bnd H
          refine seq_run0 (stp_call (k_message_isUnit s1 i2 r11 h12) ⟨.inl rfl, .inl rfl, trivial⟩) ?_
          refine seq_run0 (stp_not rfl) ?_
          refine awp_cond _ rfl (fun h13 => ?_) (fun h13 => ?_)
          · replace H := ift h13 H
            refine awp_seq ?_
            refine awp_plain hN rfl ?_
            refine seq_run0 (stp_assign (.dat _) rfl) ?_
            refine seq_run0 (stp_assign (.dat _) rfl) ?_
            refine awp_ret ?_
            replace H := retl H hq4
            cases H
            show Cv _ _ _ _
            refine cv_in ?_
            show Cv _ _ _ _
            refine cv_in ?_
            show Cv _ _ _ _
            refine cv_in ?_
            exact ⟨trivial, .inl rfl, .inl rfl, trivial⟩
          · replace H := iff_ h13 H
            refine awp_skip ?_
            refine awp_joinE (ι := (List Int)) (fun i => [(0, .dat (vstr s1)), (4, .ptr 1 0), (5, .dat (vint i2))]) (fun i => [(1, .box none 124 [.nptr 1, .row 6 i.length]), (6, .row 5 1 (List.map C_uint8 i))]) (fun i => message_normalUnits_J4 i2 i = some q4) (fun i => rfl) ?_ ?_
            · refine awp_cv ?_
              refine awp_seq ?_
              refine awp_plain hN rfl ?_
              refine seq_run0 (stp_move (.dat _) rfl) ?_
              refine seq_run0 (stp_move (.dat _) rfl) ?_
              obtain ⟨r14, h15, H⟩ := bnd H
              refine seq_run0 (stp_call (k_message_unit s1 i2 r14 h15) ⟨.inl rfl, .inl rfl, trivial⟩) ?_
              refine seq_run0 (stp_assign (.dat _) rfl) ?_
              refine awp_seq ?_
              refine awp_plain hN rfl ?_
              refine seq_run0 (stp_move (.dat _) rfl) ?_
              obtain ⟨r16, h17, H⟩ := bnd H
              refine seq_run0 (stp_call (k_message_isFree r14 r16 h17) ⟨.inl rfl, trivial⟩) ?_
              refine awp_cond _ rfl (fun h18 => ?_) (fun h18 => ?_)
              · replace H := ift h18 H
                refine awp_plain hN rfl ?_
                refine seq_run0 (stp_move (.dat _) rfl) ?_
                obtain ⟨r19, h20, H⟩ := bnd H
                refine seq_callG (rn [(0, 1), (1, 2), (900, 4)]) [(0, _, _, some _), (1, _, _, none)] [(900, _)] (kb_strings_Builder_WriteByte l3 r14 r19 h20) ⟨rfl, rfl, rfl, trivial⟩ ⟨.inl (.inl rfl), .inl (.inl rfl), trivial⟩ ⟨⟨⟨rfl, rfl⟩, trivial⟩, ⟨⟨rfl, rfl, rfl⟩, trivial⟩, trivial⟩ rfl ?_
                refine seq_end ?_
                show Cv _ _ _ _
                refine cv_ren (rn [(4, 6)]) [(0, .dat (vstr s1)), (4, .ptr 1 0), (5, .dat (vint i2))] [(1, .box none 124 [.nptr 1, .row 4 r19.2.length]), (4, .row 5 1 (List.map C_uint8 r19.2))] ⟨rfl, rfl, rfl, trivial⟩ ⟨rfl, rfl, trivial⟩ rfl rfl ?_
                exact ⟨r19.2, H, ⟨rfl, rfl, rfl, trivial⟩, ⟨rfl, rfl, trivial⟩⟩
              · replace H := iff_ h18 H
                refine awp_plain hN rfl ?_
                refine seq_run0 (stp_move (.dat _) rfl) ?_
                obtain ⟨r21, h22, H⟩ := bnd H
                refine seq_run0 (stp_call (k_message_percent r14 r21 h22) ⟨.inl rfl, trivial⟩) ?_
                obtain ⟨r23, h24, H⟩ := bnd H
                refine seq_callG (rn [(0, 1), (1, 2), (900, 5)]) [(0, _, _, some _), (1, _, _, none)] [(900, _)] (kb_strings_Builder_WriteString l3 r21 r23 h24) ⟨rfl, rfl, rfl, trivial⟩ ⟨.inl (.inl rfl), .inl (.inl rfl), trivial⟩ ⟨⟨⟨rfl, rfl⟩, trivial⟩, ⟨⟨rfl, rfl, rfl⟩, trivial⟩, trivial⟩ rfl ?_
                refine seq_end ?_
                show Cv _ _ _ _
                refine cv_ren (rn [(5, 6)]) [(0, .dat (vstr s1)), (4, .ptr 1 0), (5, .dat (vint i2))] [(1, .box none 124 [.nptr 1, .row 5 r23.2.2.length]), (5, .row 5 1 (List.map C_uint8 r23.2.2))] ⟨rfl, rfl, rfl, trivial⟩ ⟨rfl, rfl, trivial⟩ rfl rfl ?_
                exact ⟨r23.2.2, H, ⟨rfl, rfl, rfl, trivial⟩, ⟨rfl, rfl, trivial⟩⟩
            · rintro l25 H
              replace H : message_normalUnits_J4 i2 l25 = some q4 := H
              unfold message_normalUnits_J4 at H
              refine awp_plain hN rfl ?_
              refine seq_run0 (stp_move (.dat _) rfl) ?_
              refine seq_run0 (stp_wrap _ rfl rfl (.inl ⟨rfl, rfl⟩)) ?_
              refine seq_run0 (stp_assign (.dat _) rfl) ?_
              refine seq_end ?_
              show Cv _ _ _ _
              refine cv_ren (rn [(6, 7)]) [(0, .dat (vstr s1)), (4, .ptr 1 0), (5, .dat (vint (wr (i2 + 2))))] [(1, .box none 124 [.nptr 1, .row 6 l25.length]), (6, .row 5 1 (List.map C_uint8 l25))] ⟨rfl, rfl, rfl, trivial⟩ ⟨rfl, rfl, trivial⟩ rfl rfl ?_
              exact ⟨(wr (i2 + 2), l25), H, ⟨rfl, rfl, rfl, trivial⟩, ⟨rfl, rfl, trivial⟩⟩
      · rintro ⟨i26, l27⟩ H
        replace H : message_normalUnits_J3 i26 l27 = some q4 := H
        unfold message_normalUnits_J3 at H
        refine awp_plain hN rfl ?_
        refine seq_run0 (stp_move (.dat _) rfl) ?_
        refine seq_run0 (stp_wrap _ rfl rfl (.inl ⟨rfl, rfl⟩)) ?_
        refine seq_run0 (stp_assign (.dat _) rfl) ?_
        refine seq_end ?_
        show Cv _ _ _ _
        refine cv_ren (rn [(7, 2)]) [(0, .dat (vstr s1)), (4, .ptr 1 0), (5, .dat (vint (wr (i26 + 1))))] [(1, .box none 124 [.nptr 1, .row 7 l27.length]), (7, .row 5 1 (List.map C_uint8 l27))] ⟨rfl, rfl, rfl, trivial⟩ ⟨rfl, rfl, trivial⟩ rfl rfl ?_
        exact ⟨_, backl H, ⟨rfl, rfl, rfl, trivial⟩, ⟨rfl, rfl, trivial⟩⟩
    · replace H := iff_ h5 H
      refine awp_exit ?_
      replace H := outl H hq4
      show Cv _ _ _ _
      refine cv_in ?_
      show Cv _ _ _ _
      refine cv_in ?_
      exact ⟨l3, H, ⟨rfl, trivial⟩, ⟨rfl, rfl, trivial⟩⟩
  · rintro l28 H
    replace H : message_normalUnits_J1 l28 = some r := H
    unfold message_normalUnits_J1 at H
    refine awp_seq ?_
    refine awp_plain hN rfl ?_
    obtain ⟨h29, H⟩ := gif H
    refine seq_callG (rn [(0, 1), (1, 2)]) [(0, _, _, none), (1, _, _, none)] [] (kbs_String h29 (C := C_uint8) (fun _ => rfl)) ⟨rfl, rfl, trivial⟩ ⟨.inl (.inl rfl), trivial⟩ ⟨⟨⟨rfl, rfl⟩, trivial⟩, ⟨⟨rfl, rfl, rfl⟩, trivial⟩, trivial⟩ rfl ?_
    refine seq_run0 (stp_assign (.dat _) rfl) ?_
    refine seq_run0 (stp_assign (.dat _) rfl) ?_
    refine awp_ret ?_
    cases H
    exact ⟨trivial, .inl rfl, .inl rfl, trivial⟩
end Go.Proofs.YtmhghppkbppbjaaGreatDoor
