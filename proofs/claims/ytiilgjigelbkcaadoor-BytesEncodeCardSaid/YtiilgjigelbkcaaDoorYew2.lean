/- Walks along the models. Printed by a program. -/
import Derived.Test.YtiilgjigelbkcaaDoorYew1
namespace Go.Proofs.YtiilgjigelbkcaaDoor
open Go.RowKit
set_option linter.unusedVariables false
set_option maxRecDepth 20000
theorem k_gatemake_Stream_Some (s1 : S_gatemake_Stream) (l2 : (List Bs)) (r : (Bs × S_gatemake_Stream)) (H : m_gatemake_Stream_Some s1 l2 = some r) : Imp Tryd.prog 19 25 (C_gatemake_Stream s1) [vlst (List.map C_string l2)] (resOf [vstr r.1]) (C_gatemake_Stream r.2) := by
  refine imp_of (us := [vstr r.1]) (cs' := (C_gatemake_Stream r.2)) (by kernel_rfl) Tryd.func19 rfl rfl rfl rfl fun X bl hN => ?_
  unfold m_gatemake_Stream_Some at H
  refine awp_seq ?_
  refine awp_plain hN rfl ?_
  refine seq_run0 (stp_assign (.dat _) rfl) ?_
  refine awp_seq ?_
  refine awp_plain hN rfl ?_
  refine seq_run0 (stp_move (.dat _) rfl) ?_
  refine seq_run0 (stp_move (.ptr _ _) rfl) ?_
  refine seq_run0 (stp_move (.dat _) rfl) ?_
  refine seq_run0 (t_len tyU54 rfl) ?_
  obtain ⟨r3, h4, H⟩ := bnd H
  refine seq_run2 (stp_imp (k_gatemake_Stream_Next s1 (l2.length : Int) r3 h4) rfl ⟨.inl rfl, trivial⟩ rfl) rfl ?_
  obtain ⟨x5, h6, H⟩ := bnd H
  refine seq_run0 (t_idxI tyE54 (fun _ => rfl) rfl rfl h6) ?_
  refine seq_run0 (stp_loadE1 tyS9 rfl (map_at (at_some h6).2) rfl) ?_
  refine seq_run0 (stp_assign (.dat _) rfl) ?_
  refine awp_ret ?_
  cases H
  exact ⟨trivial, ⟨.inl rfl, trivial⟩, rfl⟩
theorem k_gatemake_Stream_Secret (s1 : S_gatemake_Stream) (r : (Bs × S_gatemake_Stream)) (H : m_gatemake_Stream_Secret s1 = some r) : Imp Tryd.prog 6 25 (C_gatemake_Stream s1) [] (resOf [vstr r.1]) (C_gatemake_Stream r.2) := by
  refine imp_of (us := [vstr r.1]) (cs' := (C_gatemake_Stream r.2)) (by kernel_rfl) Tryd.func6 rfl rfl rfl rfl fun X bl hN => ?_
  unfold m_gatemake_Stream_Secret at H
  refine awp_seq ?_
  refine awp_plain hN rfl ?_
  refine seq_run0 (stp_assign (.dat _) rfl) ?_
  refine awp_seq ?_
  refine awp_plain hN rfl ?_
  refine seq_run0 (stp_move (.ptr _ _) rfl) ?_
  obtain ⟨r2, h3, H⟩ := bnd H
  refine seq_run0 (stp_call (k_strings_Repeat [115] 101 r2 h3) ⟨.inl rfl, .inl rfl, trivial⟩) ?_
  refine seq_run0 (stp_dat (u' := vlst (List.map C_string [[111, 110, 101], [116, 119, 111], [116, 104, 114, 101, 101], [107, 33], [111, 110, 101], [], [97, 32, 98], [127], r2])) (stp_lit [[_], [_], [_], [_], [_], [_], [_], [_], [_]] tyL54 ⟨rfl, .inl ⟨_, rfl, rfl, rfl⟩, rfl, rfl, .inl ⟨_, rfl, rfl, rfl⟩, rfl, rfl, .inl ⟨_, rfl, rfl, rfl⟩, rfl, rfl, .inl ⟨_, rfl, rfl, rfl⟩, rfl, rfl, .inl ⟨_, rfl, rfl, rfl⟩, rfl, rfl, .inl ⟨_, rfl, rfl, rfl⟩, rfl, rfl, .inl ⟨_, rfl, rfl, rfl⟩, rfl, rfl, .inl ⟨_, rfl, rfl, rfl⟩, rfl, rfl, .inl ⟨_, rfl, rfl, rfl⟩, rfl, trivial⟩ rfl rfl) rfl) ?_
  obtain ⟨r4, h5, H⟩ := bnd H
  refine seq_run2 (stp_imp (k_gatemake_Stream_Some s1 ([[111, 110, 101], [116, 119, 111], [116, 104, 114, 101, 101], [107, 33], [111, 110, 101], [], [97, 32, 98], [127], r2]) r4 h5) rfl ⟨.inl rfl, trivial⟩ rfl) rfl ?_
  refine seq_run0 (stp_assign (.dat _) rfl) ?_
  refine awp_ret ?_
  cases H
  exact ⟨trivial, ⟨.inl rfl, trivial⟩, rfl⟩
theorem k_gatemake_Stream_Flip (s1 : S_gatemake_Stream) (n2 : Int) (r : (Bool × S_gatemake_Stream)) (H : m_gatemake_Stream_Flip s1 n2 = some r) : Imp Tryd.prog 7 25 (C_gatemake_Stream s1) [vint n2] (resOf [vbool r.1]) (C_gatemake_Stream r.2) := by
  refine imp_of (us := [vbool r.1]) (cs' := (C_gatemake_Stream r.2)) (by kernel_rfl) Tryd.func7 rfl rfl rfl rfl fun X bl hN => ?_
  unfold m_gatemake_Stream_Flip at H
  refine awp_seq ?_
  refine awp_plain hN rfl ?_
  refine seq_run0 (stp_assign (.dat _) rfl) ?_
  refine awp_seq ?_
  refine awp_plain hN rfl ?_
  refine seq_run0 (stp_move (.ptr _ _) rfl) ?_
  refine seq_run0 (stp_move (.dat _) rfl) ?_
  obtain ⟨r3, h4, H⟩ := bnd H
  refine seq_run2 (stp_imp (k_gatemake_Stream_Next s1 n2 r3 h4) rfl ⟨.inl rfl, trivial⟩ rfl) rfl ?_
  refine seq_run0 (stp_eql rfl rfl) ?_
  refine seq_run0 (stp_assign (.dat _) rfl) ?_
  refine awp_ret ?_
  cases H
  exact ⟨trivial, ⟨.inl rfl, trivial⟩, rfl⟩
theorem k_gatemake_Stream_Changed (s1 : S_gatemake_Stream) (t2 : Bs) (v3 : Bs) (r : (Bs × S_gatemake_Stream)) (H : m_gatemake_Stream_Changed s1 t2 v3 = some r) : Imp Tryd.prog 8 25 (C_gatemake_Stream s1) [vstr t2, vstr v3] (resOf [vstr r.1]) (C_gatemake_Stream r.2) := by
  refine imp_of (us := [vstr r.1]) (cs' := (C_gatemake_Stream r.2)) (by kernel_rfl) Tryd.func8 rfl rfl rfl rfl fun X bl hN => ?_
  unfold m_gatemake_Stream_Changed at H
  refine awp_seq ?_
  refine awp_plain hN rfl ?_
  refine seq_run0 (stp_assign (.dat _) rfl) ?_
  refine awp_seq ?_
  refine awp_seq ?_
  refine awp_plain hN rfl ?_
  refine seq_run0 (stp_move (.dat _) rfl) ?_
  refine seq_run0 (stp_seql rfl rfl) ?_
  refine seq_run0 (stp_move (.dat _) rfl) ?_
  refine seq_aF rfl rfl (fun hc => stp_move (.dat _) rfl) ?_
  refine seq_aF rfl rfl (fun hc => stp_seql (cnd (c := (!(decide (t2 = [])))) hc) rfl) ?_
  refine seq_run0 (stp_pick_or rfl rfl (fun hb => (cnd (c := (!(decide (t2 = [])))) (notI hb)))) ?_
  refine awp_cond _ rfl (fun h4 => ?_) (fun h4 => ?_)
  · replace H := ift h4 H
    refine awp_seq ?_
    refine awp_plain hN rfl ?_
    refine seq_run0 (stp_move (.dat _) rfl) ?_
    refine seq_run0 (stp_assign (.dat _) rfl) ?_
    refine awp_ret ?_
    cases H
    exact ⟨trivial, ⟨.inl rfl, trivial⟩, rfl⟩
  · replace H := iff_ h4 H
    refine awp_skip ?_
    refine awp_seq ?_
    refine awp_plain hN rfl ?_
    refine seq_run0 (stp_move (.ptr _ _) rfl) ?_
    refine seq_run0 (stp_move (.dat _) rfl) ?_
    refine seq_run0 (stp_len_str tyU9 rfl) ?_
    obtain ⟨r5, h6, H⟩ := bnd H
    refine seq_run2 (stp_imp (k_gatemake_Stream_Next s1 (t2.length : Int) r5 h6) rfl ⟨.inl rfl, trivial⟩ rfl) rfl ?_
    refine seq_run0 (stp_assign (.dat _) rfl) ?_
    refine awp_seq ?_
    refine awp_plain hN rfl ?_
    refine seq_run0 (stp_move (.dat _) rfl) ?_
    refine seq_run0 (stp_move (.ptr _ _) rfl) ?_
    refine seq_run0 (stp_move (.dat _) rfl) ?_
    refine seq_run0 (stp_len_str tyU9 rfl) ?_
    obtain ⟨r7, h8, H⟩ := bnd H
    refine seq_run2 (stp_imp (k_gatemake_Stream_Next r5.2 (v3.length : Int) r7 h8) rfl ⟨.inl rfl, trivial⟩ rfl) rfl ?_
    obtain ⟨x9, h10, H⟩ := bnd H
    refine seq_run0 (t_byteI tyU9 rfl rfl h10) ?_
    refine seq_run0 (stp_assign (.dat _) rfl) ?_
    refine awp_seq ?_
    refine awp_seq ?_
    refine awp_plain hN rfl ?_
    refine seq_run0 (stp_move (.ptr _ _) rfl) ?_
    obtain ⟨r11, h12, H⟩ := bnd H
    refine seq_run2 (stp_imp (k_gatemake_Stream_Next r7.2 3 r11 h12) rfl ⟨.inl rfl, trivial⟩ rfl) rfl ?_
    refine awp_block ?_
    refine awp_seq ?_
    refine awp_plain hN rfl ?_
    refine seq_run0 (stp_eql rfl rfl) ?_
    refine seq_run0 (stp_assign (.dat _) rfl) ?_
    refine awp_cond _ rfl (fun h13 => ?_) (fun h13 => ?_)
    · replace H := ift h13 H
      refine awp_seq ?_
      refine awp_draw mixed hN rfl rfl ?_
      refine seq_run0 (stp_move (.dat _) rfl) ?_
      refine seq_run0 (stp_move (.dat _) rfl) ?_
      obtain ⟨l14, h15, H⟩ := bnd H
      refine seq_run0 (t_subS tyU9 rfl rfl rfl h15) ?_
      refine seq_run0 (stp_move (.dat _) rfl) ?_
      refine seq_run0 (stp_conv tyU5 tyU21 rfl) ?_
      refine seq_run0 (stp_convR tyU21 rfl tyU9 rfl) ?_
      obtain ⟨h16, H⟩ := gif H
      refine seq_run0 (stp_sadd rfl rfl (Nat.le_trans h16 (by decide))) ?_
      refine seq_run0 (stp_move (.dat _) rfl) ?_
      refine seq_run0 (stp_move (.dat _) rfl) ?_
      refine seq_run0 (stp_wrap _ rfl rfl (.inl ⟨rfl, rfl⟩)) ?_
      obtain ⟨l17, h18, H⟩ := bnd H
      refine seq_run0 (t_subS tyU9 rfl rfl rfl h18) ?_
      obtain ⟨h19, H⟩ := gif H
      refine seq_run0 (stp_sadd rfl rfl (Nat.le_trans h19 (by decide))) ?_
      refine seq_run0 (stp_assign (.dat _) rfl) ?_
      refine ⟨rfl, ?_⟩
      refine awp_ret ?_
      cases H
      exact ⟨trivial, ⟨.inl rfl, trivial⟩, rfl⟩
    · replace H := iff_ h13 H
      refine awp_seq ?_
      refine awp_plain hN rfl ?_
      refine seq_run0 (stp_eql rfl rfl) ?_
      refine seq_run0 (stp_assign (.dat _) rfl) ?_
      refine awp_cond _ rfl (fun h20 => ?_) (fun h20 => ?_)
      · replace H := ift h20 H
        refine awp_seq ?_
        refine awp_draw mixed hN rfl rfl ?_
        refine seq_run0 (stp_move (.dat _) rfl) ?_
        refine seq_run0 (stp_move (.dat _) rfl) ?_
        obtain ⟨l21, h22, H⟩ := bnd H
        refine seq_run0 (t_subS tyU9 rfl rfl rfl h22) ?_
        refine seq_run0 (stp_move (.dat _) rfl) ?_
        refine seq_run0 (stp_conv tyU5 tyU21 rfl) ?_
        refine seq_run0 (stp_convR tyU21 rfl tyU9 rfl) ?_
        obtain ⟨h23, H⟩ := gif H
        refine seq_run0 (stp_sadd rfl rfl (Nat.le_trans h23 (by decide))) ?_
        refine seq_run0 (stp_move (.dat _) rfl) ?_
        refine seq_run0 (stp_move (.dat _) rfl) ?_
        obtain ⟨l24, h25, H⟩ := bnd H
        refine seq_run0 (t_subS tyU9 rfl rfl rfl h25) ?_
        obtain ⟨h26, H⟩ := gif H
        refine seq_run0 (stp_sadd rfl rfl (Nat.le_trans h26 (by decide))) ?_
        refine seq_run0 (stp_assign (.dat _) rfl) ?_
        refine ⟨rfl, ?_⟩
        refine awp_ret ?_
        cases H
        exact ⟨trivial, ⟨.inl rfl, trivial⟩, rfl⟩
      · replace H := iff_ h20 H
        refine awp_skip ?_
        refine awp_seq ?_
        refine awp_draw mixed hN rfl rfl ?_
        refine seq_run0 (stp_move (.dat _) rfl) ?_
        refine seq_run0 (stp_move (.dat _) rfl) ?_
        obtain ⟨l27, h28, H⟩ := bnd H
        refine seq_run0 (t_subS tyU9 rfl rfl rfl h28) ?_
        refine seq_run0 (stp_move (.dat _) rfl) ?_
        refine seq_run0 (stp_move (.dat _) rfl) ?_
        refine seq_run0 (stp_wrap _ rfl rfl (.inl ⟨rfl, rfl⟩)) ?_
        obtain ⟨l29, h30, H⟩ := bnd H
        refine seq_run0 (t_subS tyU9 rfl rfl rfl h30) ?_
        obtain ⟨h31, H⟩ := gif H
        refine seq_run0 (stp_sadd rfl rfl (Nat.le_trans h31 (by decide))) ?_
        refine seq_run0 (stp_assign (.dat _) rfl) ?_
        refine ⟨rfl, ?_⟩
        refine awp_ret ?_
        cases H
        exact ⟨trivial, ⟨.inl rfl, trivial⟩, rfl⟩
theorem k_strings_IndexByte (l : Bs) (c r : Int) (H : m_strings_IndexByte l c = some r) : Fn Tryd.prog 21 [vstr l, vval (.int .u8 c)] (resOf [vint r]) := by
  cases H
  refine fn_of_calls (by kernel_rfl) fun M w vs h => ?_
  have h1 := Ts_vals (us := [.string ⟨l.toArray⟩, .int .u8 c]) h
  subst h1
  refine (Tryd.strings_IndexByte ⟨l.toArray⟩ c w).mono ?_
  rintro e w' ⟨rfl, rfl⟩
  exact ⟨_, rfl, rfl, Kp.refl _ _⟩
theorem k_token_Encode (s1 : Bs) (r : (Bs)) (H : m_token_Encode s1 = some r) : Fn Tryd.prog 14 [vstr s1] (resOf [vstr r]) := by
  refine ⟨by kernel_rfl, pure_of (us := [vstr r]) Tryd.func14 rfl rfl rfl rfl fun X hN => ?_⟩
  unfold m_token_Encode at H
  refine awp_seq ?_
  refine awp_plain hN rfl ?_
  refine seq_run0 (stp_assign (.dat _) rfl) ?_
  refine awp_seq ?_
  refine awp_plain hN rfl ?_
  refine seq_run0 (stp_assign (.dat _) rfl) ?_
  refine awp_joinE (ι := (List Int)) (fun i => [(3, .row 1 i.length)]) (fun i => [(1, .row 5 1 (List.map C_uint8 i))]) (fun i => token_Encode_J1 i = some r) (fun i => rfl) ?_ ?_
  · skip
    refine awp_block ?_
    refine awp_nilrow 3 1 5 1 rfl rfl rfl ?_
    refine awp_iter (fun (s : Bs × (List Int)) => [(0, .dat (vstr s.1)), (3, .row 1 s.2.length)]) (fun (s : Bs × (List Int)) => [(1, .row 5 1 (List.map C_uint8 s.2))]) (s1, []) H ⟨rfl, congrArg (Slot.row 1) (by simp), trivial⟩ ⟨rfl, trivial⟩ (fun _ => rfl) ?_
    rintro ⟨s2, l3⟩ q4 H hq4
    replace H : token_Encode_L2 s2 l3 = some q4 := H
    unfold token_Encode_L2 at H
    refine awp_seq ?_
    refine awp_seq ?_
    refine awp_plain hN rfl ?_
    refine seq_run0 (stp_move (.dat _) rfl) ?_
    refine seq_run0 (stp_len_str tyU9 rfl) ?_
    refine seq_run0 (stp_gtr rfl rfl) ?_
    refine awp_cond _ rfl (fun h5 => ?_) (fun h5 => ?_)
    · replace H := ift h5 H
      refine awp_skip ?_
      refine awp_block ?_
      refine awp_seq ?_
      refine awp_plain hN rfl ?_
      refine seq_run0 (stp_move (.dat _) rfl) ?_
      refine seq_run0 (stp_len_str tyU9 rfl) ?_
      refine seq_run0 (stp_min rfl rfl) ?_
      refine seq_run0 (stp_assign (.dat _) rfl) ?_
      refine awp_seq ?_
      refine awp_plain hN rfl ?_
      refine seq_run0 (stp_assign (.dat _) rfl) ?_
      refine awp_seq ?_
      refine awp_seq ?_
      refine awp_plain hN rfl ?_
      refine seq_run0 (stp_move (.dat _) rfl) ?_
      refine awp_block ?_
      obtain ⟨h9, H⟩ := gif H
      refine awp_rng (fun (k7 : Nat) (s : Int) => [(0, .dat (vstr s2)), (3, .row 1 l3.length), (4, .dat (vint (min 3 (s2.length : Int)))), (5, .dat (vint s)), (14, .dat (vint (k7 : Int)))]) (fun (k7 : Nat) (s : Int) => [(1, .row 5 1 (List.map C_uint8 l3))]) 0 H ⟨rfl, rfl, rfl, rfl, rfl, trivial⟩ ⟨rfl, trivial⟩ (fun _ _ => rfl) ?_ ?_
      · rintro x6 H
        replace H : token_Encode_E3 s2 l3 x6 = some q4 := H
        unfold token_Encode_E3 at H
        refine awp_seq ?_
        refine awp_plain hN rfl ?_
        refine seq_run0 (stp_lss rfl rfl) ?_
        refine awp_seq ?_
        refine awp_cond _ rfl (fun h => (lt_t h).elim) (fun h => ?_)
        refine awp_exit ?_
        refine awp_seq ?_
        refine awp_seq ?_
        refine awp_plain hN rfl ?_
        refine seq_run0 (stp_move (.dat _) rfl) ?_
        refine seq_run0 (stp_wrap _ rfl rfl (.inl ⟨rfl, rfl⟩)) ?_
        refine seq_run0 (stp_move (.dat _) rfl) ?_
        refine awp_block ?_
        obtain ⟨h13, H⟩ := gif H
        refine awp_rng (fun (k11 : Nat) (s : (List Int)) => [(0, .dat (vstr s2)), (3, .row 1 s.length), (4, .dat (vint (min 3 (s2.length : Int)))), (5, .dat (vint x6)), (30, .dat (vint (wr ((min 3 (s2.length : Int)) + 1)))), (31, .dat (vint (k11 : Int)))]) (fun (k11 : Nat) (s : (List Int)) => [(1, .row 5 1 (List.map C_uint8 s))]) l3 H ⟨rfl, rfl, rfl, rfl, rfl, rfl, trivial⟩ ⟨rfl, trivial⟩ (fun _ _ => rfl) ?_ ?_
        · rintro l10 H
          replace H : token_Encode_E4 s2 l10 = some q4 := H
          unfold token_Encode_E4 at H
          refine awp_seq ?_
          refine awp_plain hN rfl ?_
          refine seq_run0 (stp_lss rfl rfl) ?_
          refine awp_seq ?_
          refine awp_cond _ rfl (fun h => (lt_tI h).elim) (fun h => ?_)
          refine awp_exit ?_
          refine awp_plain hN rfl ?_
          refine seq_run0 (stp_move (.dat _) rfl) ?_
          refine seq_run0 (stp_move (.dat _) rfl) ?_
          obtain ⟨l14, h15, H⟩ := bnd H
          refine seq_run0 (t_subS tyU9 rfl rfl rfl h15) ?_
          refine seq_run0 (stp_assign (.dat _) rfl) ?_
          exact ⟨_, backl H, ⟨rfl, rfl, trivial⟩, ⟨rfl, trivial⟩⟩
        · rintro k11 l10 q12 h16 H hq12
          replace H : token_Encode_L4 x6 k11 l10 = some q12 := H
          unfold token_Encode_L4 at H
          refine awp_seq ?_
          refine awp_plain hN rfl ?_
          refine seq_run0 (stp_lss rfl rfl) ?_
          refine awp_seq ?_
          refine awp_cond _ rfl (fun h => ?_) (fun h => (lt_fI h16 h).elim)
          refine awp_skip ?_
          refine awp_seq ?_
          refine awp_block ?_
          refine awp_seq ?_
          refine awp_plain hN rfl ?_
          refine seq_run0 (stp_move (.dat _) rfl) ?_
          refine seq_run0 (stp_assign (.dat _) rfl) ?_
          refine awp_plain hN rfl ?_
          refine seq_run0 (stp_move (.row _ _) rfl) ?_
          refine seq_run0 (stp_move (.dat _) rfl) ?_
          refine seq_run0 (stp_move (.dat _) rfl) ?_
          refine seq_run0 (stp_wrap _ rfl rfl (.inr (.inr ⟨rfl, rfl⟩))) ?_
          refine seq_run0 (stp_wrap _ rfl rfl (.inr (.inl ⟨rfl, rfl⟩))) ?_
          obtain ⟨h17, H⟩ := gif H
          refine seq_run0 (stp_dat (stp_shr rfl rfl h17) rfl) ?_
          refine seq_run0 (stp_dat (stp_and rfl rfl) rfl) ?_
          obtain ⟨x18, h19, H⟩ := bnd H
          refine seq_run0 (t_byteI tyU9 rfl rfl h19) ?_
          refine seq_run0 (stp_dat (u' := vlst (List.map C_uint8 [(x18.toNat : Int)])) (stp_lit [[_]] tyL26 ⟨rfl, .inl ⟨_, rfl, rfl, rfl⟩, rfl, trivial⟩ rfl rfl) rfl) ?_
          obtain ⟨h20, H⟩ := gif H
          refine seq_run2 (t_app tyL26 (fun _ => rfl) rfl rfl rfl ⟨by simp, by simpa using h20⟩ rfl) rfl ?_
          refine seq_run0 (stp_assign (.row _ _) rfl) ?_
          refine awp_plain hN rfl ?_
          refine seq_run0 (stp_add rfl rfl (by omega)) ?_
          refine seq_run0 (stp_move (.dat _) rfl) ?_
          exact ⟨_, backl H, ⟨rfl, rfl, rfl, rfl, rfl, rfl, trivial⟩, ⟨rfl, trivial⟩⟩
      · rintro k7 x6 q8 h21 H hq8
        replace H : token_Encode_L3 s2 k7 x6 = some q8 := H
        unfold token_Encode_L3 at H
        refine awp_seq ?_
        refine awp_plain hN rfl ?_
        refine seq_run0 (stp_lss rfl rfl) ?_
        refine awp_seq ?_
        refine awp_cond _ rfl (fun h => ?_) (fun h => (lt_f h21 h).elim)
        refine awp_skip ?_
        refine awp_joinE (ι := Int) (fun i => [(0, .dat (vstr s2)), (3, .row 1 l3.length), (4, .dat (vint (min 3 (s2.length : Int)))), (5, .dat (vint i)), (14, .dat (vint (k7 : Int)))]) (fun i => [(1, .row 5 1 (List.map C_uint8 l3))]) (fun i => token_Encode_J5 i = some q8) (fun i => rfl) ?_ ?_
        · skip
          refine awp_block ?_
          refine awp_seq ?_
          refine awp_plain hN rfl ?_
          refine seq_run0 (stp_move (.dat _) rfl) ?_
          refine seq_run0 (stp_assign (.dat _) rfl) ?_
          refine awp_seq ?_
          refine awp_plain hN rfl ?_
          refine seq_run0 (stp_move (.dat _) rfl) ?_
          refine seq_run0 (stp_dat (stp_shl rfl rfl (by decide)) rfl) ?_
          refine seq_run0 (stp_assign (.dat _) rfl) ?_
          refine awp_seq ?_
          refine awp_plain hN rfl ?_
          refine seq_run0 (stp_move (.dat _) rfl) ?_
          refine seq_run0 (stp_move (.dat _) rfl) ?_
          refine seq_run0 (stp_lss rfl rfl) ?_
          refine awp_cond _ rfl (fun h22 => ?_) (fun h22 => ?_)
          · replace H := ift h22 H
            refine awp_plain hN rfl ?_
            refine seq_run0 (stp_move (.dat _) rfl) ?_
            refine seq_run0 (stp_move (.dat _) rfl) ?_
            refine seq_run0 (stp_move (.dat _) rfl) ?_
            obtain ⟨x23, h24, H⟩ := bnd H
            refine seq_run0 (t_byte tyU9 rfl rfl h24) ?_
            refine seq_run0 (stp_conv tyU5 tyU3 rfl) ?_
            refine seq_run0 (stp_dat (stp_or rfl rfl) rfl) ?_
            refine seq_run0 (stp_assign (.dat _) rfl) ?_
            exact ⟨(or_ .i64 (shl_ .i64 x6 8) (IntKind.wrap .i64 (x23.toNat : Int))), H, ⟨rfl, rfl, rfl, rfl, rfl, trivial⟩, ⟨rfl, trivial⟩⟩
          · replace H := iff_ h22 H
            refine awp_skip ?_
            exact ⟨(shl_ .i64 x6 8), H, ⟨rfl, rfl, rfl, rfl, rfl, trivial⟩, ⟨rfl, trivial⟩⟩
        · rintro x25 H
          replace H : token_Encode_J5 x25 = some q8 := H
          unfold token_Encode_J5 at H
          refine awp_plain hN rfl ?_
          refine seq_run0 (stp_add rfl rfl (by omega)) ?_
          refine seq_run0 (stp_move (.dat _) rfl) ?_
          exact ⟨_, backl H, ⟨rfl, rfl, rfl, rfl, rfl, trivial⟩, ⟨rfl, trivial⟩⟩
    · replace H := iff_ h5 H
      refine awp_exit ?_
      replace H := outl H hq4
      exact ⟨l3, H, ⟨rfl, trivial⟩, ⟨rfl, trivial⟩⟩
  · rintro out26 H
    replace H : token_Encode_J1 out26 = some r := H
    unfold token_Encode_J1 at H
    refine awp_seq ?_
    refine t_freeze 3 1 rfl rfl rfl ?_
    refine awp_plain hN rfl ?_
    refine seq_run0 (stp_move (.dat _) rfl) ?_
    refine seq_run0 (stp_convB (C := C_uint8) tyU26 tyU5 tyU9 (fun _ => rfl) rfl) ?_
    refine seq_run0 (stp_assign (.dat _) rfl) ?_
    refine awp_ret ?_
    cases H
    exact ⟨trivial, .inl rfl, trivial⟩
theorem k_token_Decode (s1 : Bs) (r : (Bs × Int)) (H : m_token_Decode s1 = some r) : Fn Tryd.prog 9 [vstr s1] (resOf [vstr r.1, vint r.2]) := by
  refine ⟨by kernel_rfl, pure_of (us := [vstr r.1, vint r.2]) Tryd.func9 rfl rfl rfl rfl fun X hN => ?_⟩
  unfold m_token_Decode at H
  refine awp_seq ?_
  refine awp_plain hN rfl ?_
  refine seq_run0 (stp_assign (.dat _) rfl) ?_
  refine seq_run0 (stp_assign (.dat _) rfl) ?_
  refine awp_seq ?_
  refine awp_plain hN rfl ?_
  refine seq_run0 (stp_assign (.dat _) rfl) ?_
  refine awp_joinE (ι := (List Int)) (fun i => [(0, .dat (vstr s1)), (4, .row 1 i.length)]) (fun i => [(1, .row 5 1 (List.map C_uint8 i))]) (fun i => token_Decode_J1 s1 i = some r) (fun i => rfl) ?_ ?_
  · skip
    refine awp_seq ?_
    refine awp_plain hN rfl ?_
    refine seq_run0 (stp_move (.dat _) rfl) ?_
    refine seq_run0 (stp_assign (.dat _) rfl) ?_
    refine awp_block ?_
    refine awp_nilrow 4 1 5 1 rfl rfl rfl ?_
    refine awp_iter (fun (s : Bs × (List Int)) => [(0, .dat (vstr s1)), (4, .row 1 s.2.length), (5, .dat (vstr s.1))]) (fun (s : Bs × (List Int)) => [(1, .row 5 1 (List.map C_uint8 s.2))]) (s1, []) H ⟨rfl, congrArg (Slot.row 1) (by simp), rfl, trivial⟩ ⟨rfl, trivial⟩ (fun _ => rfl) ?_
    rintro ⟨rest2, l3⟩ q4 H hq4
    replace H : token_Decode_L2 s1 rest2 l3 = some q4 := H
    unfold token_Decode_L2 at H
    refine awp_seq ?_
    refine awp_seq ?_
    refine awp_plain hN rfl ?_
    refine seq_run0 (stp_move (.dat _) rfl) ?_
    refine seq_run0 (stp_len_str tyU9 rfl) ?_
    refine seq_run0 (stp_gtr rfl rfl) ?_
    refine awp_cond _ rfl (fun h5 => ?_) (fun h5 => ?_)
    · replace H := ift h5 H
      refine awp_skip ?_
      refine awp_block ?_
      refine awp_seq ?_
      refine awp_plain hN rfl ?_
      refine seq_run0 (stp_move (.dat _) rfl) ?_
      refine seq_run0 (stp_len_str tyU9 rfl) ?_
      refine seq_run0 (stp_min rfl rfl) ?_
      refine seq_run0 (stp_assign (.dat _) rfl) ?_
      refine awp_seq ?_
      refine awp_plain hN rfl ?_
      refine seq_run0 (stp_assign (.dat _) rfl) ?_
      refine awp_seq ?_
      refine awp_seq ?_
      refine awp_plain hN rfl ?_
      refine seq_run0 (stp_move (.dat _) rfl) ?_
      refine awp_block ?_
      obtain ⟨h9, H⟩ := gif H
      refine awp_rng (fun (k7 : Nat) (s : Int) => [(0, .dat (vstr s1)), (4, .row 1 l3.length), (5, .dat (vstr rest2)), (6, .dat (vint (min 4 (rest2.length : Int)))), (7, .dat (vint s)), (18, .dat (vint (k7 : Int)))]) (fun (k7 : Nat) (s : Int) => [(1, .row 5 1 (List.map C_uint8 l3))]) 0 H ⟨rfl, rfl, rfl, rfl, rfl, rfl, trivial⟩ ⟨rfl, trivial⟩ (fun _ _ => rfl) ?_ ?_
      · rintro x6 H
        replace H : token_Decode_E3 rest2 l3 x6 = some q4 := H
        unfold token_Decode_E3 at H
        refine awp_seq ?_
        refine awp_plain hN rfl ?_
        refine seq_run0 (stp_lss rfl rfl) ?_
        refine awp_seq ?_
        refine awp_cond _ rfl (fun h => (lt_t h).elim) (fun h => ?_)
        refine awp_exit ?_
        refine awp_seq ?_
        refine awp_seq ?_
        refine awp_plain hN rfl ?_
        refine seq_run0 (stp_move (.dat _) rfl) ?_
        refine seq_run0 (stp_wrap _ rfl rfl (.inr (.inl ⟨rfl, rfl⟩))) ?_
        refine seq_run0 (stp_move (.dat _) rfl) ?_
        refine awp_block ?_
        obtain ⟨h13, H⟩ := gif H
        refine awp_rng (fun (k11 : Nat) (s : (List Int)) => [(0, .dat (vstr s1)), (4, .row 1 s.length), (5, .dat (vstr rest2)), (6, .dat (vint (min 4 (rest2.length : Int)))), (7, .dat (vint x6)), (37, .dat (vint (wr ((min 4 (rest2.length : Int)) - 1)))), (38, .dat (vint (k11 : Int)))]) (fun (k11 : Nat) (s : (List Int)) => [(1, .row 5 1 (List.map C_uint8 s))]) l3 H ⟨rfl, rfl, rfl, rfl, rfl, rfl, rfl, trivial⟩ ⟨rfl, trivial⟩ (fun _ _ => rfl) ?_ ?_
        · rintro l10 H
          replace H : token_Decode_E4 rest2 l10 = some q4 := H
          unfold token_Decode_E4 at H
          refine awp_seq ?_
          refine awp_plain hN rfl ?_
          refine seq_run0 (stp_lss rfl rfl) ?_
          refine awp_seq ?_
          refine awp_cond _ rfl (fun h => (lt_tI h).elim) (fun h => ?_)
          refine awp_exit ?_
          refine awp_plain hN rfl ?_
          refine seq_run0 (stp_move (.dat _) rfl) ?_
          refine seq_run0 (stp_move (.dat _) rfl) ?_
          obtain ⟨l14, h15, H⟩ := bnd H
          refine seq_run0 (t_subS tyU9 rfl rfl rfl h15) ?_
          refine seq_run0 (stp_assign (.dat _) rfl) ?_
          exact ⟨_, backl H, ⟨rfl, rfl, rfl, trivial⟩, ⟨rfl, trivial⟩⟩
        · rintro k11 l10 q12 h16 H hq12
          replace H : token_Decode_L4 x6 k11 l10 = some q12 := H
          unfold token_Decode_L4 at H
          refine awp_seq ?_
          refine awp_plain hN rfl ?_
          refine seq_run0 (stp_lss rfl rfl) ?_
          refine awp_seq ?_
          refine awp_cond _ rfl (fun h => ?_) (fun h => (lt_fI h16 h).elim)
          refine awp_skip ?_
          refine awp_seq ?_
          refine awp_block ?_
          refine awp_seq ?_
          refine awp_plain hN rfl ?_
          refine seq_run0 (stp_move (.dat _) rfl) ?_
          refine seq_run0 (stp_assign (.dat _) rfl) ?_
          refine awp_plain hN rfl ?_
          refine seq_run0 (stp_move (.row _ _) rfl) ?_
          refine seq_run0 (stp_move (.dat _) rfl) ?_
          refine seq_run0 (stp_move (.dat _) rfl) ?_
          refine seq_run0 (stp_wrap _ rfl rfl (.inr (.inr ⟨rfl, rfl⟩))) ?_
          refine seq_run0 (stp_wrap _ rfl rfl (.inr (.inl ⟨rfl, rfl⟩))) ?_
          obtain ⟨h17, H⟩ := gif H
          refine seq_run0 (stp_dat (stp_shr rfl rfl h17) rfl) ?_
          refine seq_run0 (stp_conv tyU3 tyU5 rfl) ?_
          refine seq_run0 (stp_dat (u' := vlst (List.map C_uint8 [IntKind.wrap .u8 (shr_ .i64 x6 (wr (16 - (wr (8 * (k11 : Int))))))])) (stp_lit [[_]] tyL26 ⟨rfl, .inl ⟨_, rfl, rfl, rfl⟩, rfl, trivial⟩ rfl rfl) rfl) ?_
          obtain ⟨h18, H⟩ := gif H
          refine seq_run2 (t_app tyL26 (fun _ => rfl) rfl rfl rfl ⟨by simp, by simpa using h18⟩ rfl) rfl ?_
          refine seq_run0 (stp_assign (.row _ _) rfl) ?_
          refine awp_plain hN rfl ?_
          refine seq_run0 (stp_add rfl rfl (by omega)) ?_
          refine seq_run0 (stp_move (.dat _) rfl) ?_
          exact ⟨_, backl H, ⟨rfl, rfl, rfl, rfl, rfl, rfl, rfl, trivial⟩, ⟨rfl, trivial⟩⟩
      · rintro k7 x6 q8 h19 H hq8
        replace H : token_Decode_L3 rest2 k7 x6 = some q8 := H
        unfold token_Decode_L3 at H
        refine awp_seq ?_
        refine awp_plain hN rfl ?_
        refine seq_run0 (stp_lss rfl rfl) ?_
        refine awp_seq ?_
        refine awp_cond _ rfl (fun h => ?_) (fun h => (lt_f h19 h).elim)
        refine awp_skip ?_
        refine awp_joinE (ι := Int) (fun i => [(0, .dat (vstr s1)), (4, .row 1 l3.length), (5, .dat (vstr rest2)), (6, .dat (vint (min 4 (rest2.length : Int)))), (7, .dat (vint i)), (18, .dat (vint (k7 : Int)))]) (fun i => [(1, .row 5 1 (List.map C_uint8 l3))]) (fun i => token_Decode_J5 i = some q8) (fun i => rfl) ?_ ?_
        · skip
          refine awp_block ?_
          refine awp_seq ?_
          refine awp_plain hN rfl ?_
          refine seq_run0 (stp_move (.dat _) rfl) ?_
          refine seq_run0 (stp_assign (.dat _) rfl) ?_
          refine awp_seq ?_
          refine awp_plain hN rfl ?_
          refine seq_run0 (stp_move (.dat _) rfl) ?_
          refine seq_run0 (stp_dat (stp_shl rfl rfl (by decide)) rfl) ?_
          refine seq_run0 (stp_assign (.dat _) rfl) ?_
          refine awp_seq ?_
          refine awp_plain hN rfl ?_
          refine seq_run0 (stp_move (.dat _) rfl) ?_
          refine seq_run0 (stp_move (.dat _) rfl) ?_
          refine seq_run0 (stp_lss rfl rfl) ?_
          refine awp_cond _ rfl (fun h20 => ?_) (fun h20 => ?_)
          · replace H := ift h20 H
            refine awp_seq ?_
            refine awp_plain hN rfl ?_
            refine seq_run0 (stp_move (.dat _) rfl) ?_
            refine seq_run0 (stp_move (.dat _) rfl) ?_
            obtain ⟨x21, h22, H⟩ := bnd H
            refine seq_run0 (t_byte tyU9 rfl rfl h22) ?_
            obtain ⟨r23, h24, H⟩ := bnd H
            refine seq_run0 (stp_call (k_strings_IndexByte [65, 66, 67, 68, 69, 70, 71, 72, 73, 74, 75, 76, 77, 78, 79, 80, 81, 82, 83, 84, 85, 86, 87, 88, 89, 90, 97, 98, 99, 100, 101, 102, 103, 104, 105, 106, 107, 108, 109, 110, 111, 112, 113, 114, 115, 116, 117, 118, 119, 120, 121, 122, 48, 49, 50, 51, 52, 53, 54, 55, 56, 57, 45, 95] (x21.toNat : Int) r23 h24) ⟨.inl rfl, .inl rfl, trivial⟩) ?_
            refine seq_run0 (stp_assign (.dat _) rfl) ?_
            refine awp_seq ?_
            refine awp_seq ?_
            refine awp_plain hN rfl ?_
            refine seq_run0 (stp_move (.dat _) rfl) ?_
            refine seq_run0 (stp_lss rfl rfl) ?_
            refine awp_cond _ rfl (fun h25 => ?_) (fun h25 => ?_)
            · replace H := ift h25 H
              refine awp_seq ?_
              refine awp_plain hN rfl ?_
              refine seq_run0 (stp_assign (.dat _) rfl) ?_
              refine seq_run0 (stp_assign (.dat _) rfl) ?_
              refine awp_ret ?_
              replace H := retl H hq8
              replace H := retl H hq4
              cases H
              exact ⟨trivial, .inl rfl, .inl rfl, trivial⟩
            · replace H := iff_ h25 H
              refine awp_skip ?_
              refine awp_plain hN rfl ?_
              refine seq_run0 (stp_move (.dat _) rfl) ?_
              refine seq_run0 (stp_move (.dat _) rfl) ?_
              refine seq_run0 (stp_dat (stp_or rfl rfl) rfl) ?_
              refine seq_run0 (stp_assign (.dat _) rfl) ?_
              exact ⟨(or_ .i64 (shl_ .i64 x6 6) r23), H, ⟨rfl, rfl, rfl, rfl, rfl, rfl, trivial⟩, ⟨rfl, trivial⟩⟩
          · replace H := iff_ h20 H
            refine awp_skip ?_
            exact ⟨(shl_ .i64 x6 6), H, ⟨rfl, rfl, rfl, rfl, rfl, rfl, trivial⟩, ⟨rfl, trivial⟩⟩
        · rintro x26 H
          replace H : token_Decode_J5 x26 = some q8 := H
          unfold token_Decode_J5 at H
          refine awp_plain hN rfl ?_
          refine seq_run0 (stp_add rfl rfl (by omega)) ?_
          refine seq_run0 (stp_move (.dat _) rfl) ?_
          exact ⟨_, backl H, ⟨rfl, rfl, rfl, rfl, rfl, rfl, trivial⟩, ⟨rfl, trivial⟩⟩
    · replace H := iff_ h5 H
      refine awp_exit ?_
      replace H := outl H hq4
      exact ⟨l3, H, ⟨rfl, rfl, trivial⟩, ⟨rfl, trivial⟩⟩
  · rintro out27 H
    replace H : token_Decode_J1 s1 out27 = some r := H
    unfold token_Decode_J1 at H
    refine awp_seq ?_
    refine awp_seq ?_
    refine t_freeze 4 1 rfl rfl rfl ?_
    refine awp_plain hN rfl ?_
    refine seq_run0 (stp_move (.dat _) rfl) ?_
    refine seq_run0 (stp_convB (C := C_uint8) tyU26 tyU5 tyU9 (fun _ => rfl) rfl) ?_
    obtain ⟨r28, h29, H⟩ := bnd H
    refine seq_run0 (stp_call (k_token_Encode (strN out27) r28 h29) ⟨.inl rfl, trivial⟩) ?_
    refine seq_run0 (stp_move (.dat _) rfl) ?_
    refine seq_run0 (stp_sneq rfl rfl) ?_
    refine awp_cond _ rfl (fun h30 => ?_) (fun h30 => ?_)
    · replace H := ift h30 H
      refine awp_seq ?_
      refine awp_plain hN rfl ?_
      refine seq_run0 (stp_assign (.dat _) rfl) ?_
      refine seq_run0 (stp_assign (.dat _) rfl) ?_
      refine awp_ret ?_
      cases H
      exact ⟨trivial, .inl rfl, .inl rfl, trivial⟩
    · replace H := iff_ h30 H
      refine awp_skip ?_
      refine awp_seq ?_
      refine awp_plain hN rfl ?_
      refine seq_run0 (stp_move (.dat _) rfl) ?_
      refine seq_run0 (stp_convB (C := C_uint8) tyU26 tyU5 tyU9 (fun _ => rfl) rfl) ?_
      refine seq_run0 (stp_assign (.dat _) rfl) ?_
      refine seq_run0 (stp_assign (.dat _) rfl) ?_
      refine awp_ret ?_
      cases H
      exact ⟨trivial, .inl rfl, .inl rfl, trivial⟩
theorem k_gateref2_Decoded (s1 : Bs) (r : (Bs × Int)) (H : m_gateref2_Decoded s1 = some r) : Fn Tryd.prog 10 [vstr s1] (resOf [vstr r.1, vint r.2]) := by
  refine ⟨by kernel_rfl, pure_of (us := [vstr r.1, vint r.2]) Tryd.func10 rfl rfl rfl rfl fun X hN => ?_⟩
  unfold m_gateref2_Decoded at H
  refine awp_seq ?_
  refine awp_plain hN rfl ?_
  refine seq_run0 (stp_assign (.dat _) rfl) ?_
  refine seq_run0 (stp_assign (.dat _) rfl) ?_
  refine awp_seq ?_
  refine awp_plain hN rfl ?_
  refine seq_run0 (stp_assign (.dat _) rfl) ?_
  refine awp_seq ?_
  refine awp_seq ?_
  refine awp_plain hN rfl ?_
  refine seq_run0 (stp_move (.dat _) rfl) ?_
  refine seq_run0 (stp_len_str tyU9 rfl) ?_
  refine seq_run0 (stp_move (.dat _) rfl) ?_
  refine awp_block ?_
  obtain ⟨h5, H⟩ := gif H
  refine awp_forL (fun (k3 : Nat) (s : Bs) => [(0, .dat (vstr s1)), (4, .dat (vstr s)), (11, .dat (vint (s1.length : Int))), (12, .dat (vint (k3 : Int)))]) (fun (k3 : Nat) (s : Bs) => []) [] H ⟨rfl, rfl, rfl, rfl, trivial⟩ trivial (fun _ _ => rfl) ?_ ?_
  · rintro bits2 H
    replace H : gateref2_Decoded_E1 s1 bits2 = some r := H
    unfold gateref2_Decoded_E1 at H
    refine awp_seq ?_
    refine awp_plain hN rfl ?_
    refine seq_run0 (stp_lss rfl rfl) ?_
    refine awp_seq ?_
    refine awp_cond _ rfl (fun h => (lt_t h).elim) (fun h => ?_)
    refine awp_exit ?_
    refine awp_seq ?_
    refine awp_plain hN rfl ?_
    refine seq_run0 (stp_assign (.dat _) rfl) ?_
    refine awp_joinE (ι := (List Int)) (fun i => [(0, .dat (vstr s1)), (7, .row 1 i.length)]) (fun i => [(1, .row 5 1 (List.map C_uint8 i))]) (fun i => gateref2_Decoded_J2 s1 i = some r) (fun i => rfl) ?_ ?_
    · skip
      refine awp_block ?_
      refine awp_nilrow 7 1 5 1 rfl rfl rfl ?_
      refine awp_iter (fun (s : Bs × (List Int)) => [(0, .dat (vstr s1)), (4, .dat (vstr s.1)), (7, .row 1 s.2.length)]) (fun (s : Bs × (List Int)) => [(1, .row 5 1 (List.map C_uint8 s.2))]) (bits2, []) H ⟨rfl, rfl, congrArg (Slot.row 1) (by simp), trivial⟩ ⟨rfl, trivial⟩ (fun _ => rfl) ?_
      rintro ⟨bits7, l8⟩ q9 H hq9
      replace H : gateref2_Decoded_L3 s1 bits7 l8 = some q9 := H
      unfold gateref2_Decoded_L3 at H
      refine awp_seq ?_
      refine awp_seq ?_
      refine awp_plain hN rfl ?_
      refine seq_run0 (stp_move (.dat _) rfl) ?_
      refine seq_run0 (stp_len_str tyU9 rfl) ?_
      refine seq_run0 (stp_geq rfl rfl) ?_
      refine awp_cond _ rfl (fun h10 => ?_) (fun h10 => ?_)
      · replace H := ift h10 H
        refine awp_skip ?_
        refine awp_block ?_
        refine awp_seq ?_
        refine awp_plain hN rfl ?_
        refine seq_run0 (stp_move (.dat _) rfl) ?_
        obtain ⟨l11, h12, H⟩ := bnd H
        refine seq_run0 (t_subS tyU9 rfl rfl rfl h12) ?_
        obtain ⟨r13, h14, H⟩ := bnd H
        refine seq_run0 (stp_call (k_strconv_ParseInt l11 2 64 r13 h14) ⟨.inl rfl, .inl rfl, .inl rfl, trivial⟩) ?_
        refine seq_run0 (stp_move (.dat _) rfl) ?_
        refine seq_run0 (stp_ext rfl rfl) ?_
        refine seq_run0 (stp_ext rfl rfl) ?_
        refine seq_run0 (stp_assign (.dat _) rfl) ?_
        refine seq_run0 (stp_assign (.dat _) rfl) ?_
        refine awp_draw mixed hN rfl rfl ?_
        refine seq_run0 (stp_move (.row _ _) rfl) ?_
        refine seq_run0 (stp_move (.dat _) rfl) ?_
        refine seq_run0 (stp_conv tyU2 tyU5 rfl) ?_
        refine seq_run0 (stp_dat (u' := vlst (List.map C_uint8 [IntKind.wrap .u8 r13.1])) (stp_lit [[_]] tyL26 ⟨rfl, .inl ⟨_, rfl, rfl, rfl⟩, rfl, trivial⟩ rfl rfl) rfl) ?_
        obtain ⟨h15, H⟩ := gif H
        refine seq_run2 (t_app tyL26 (fun _ => rfl) rfl rfl rfl ⟨by simp, by simpa using h15⟩ rfl) rfl ?_
        refine seq_run0 (stp_move (.dat _) rfl) ?_
        obtain ⟨l16, h17, H⟩ := bnd H
        refine seq_run0 (t_subS tyU9 rfl rfl rfl h17) ?_
        refine seq_run0 (stp_assign (.row _ _) rfl) ?_
        refine seq_run0 (stp_assign (.dat _) rfl) ?_
        refine ⟨rfl, ?_⟩
        exact ⟨_, backl H, ⟨rfl, rfl, rfl, trivial⟩, ⟨rfl, trivial⟩⟩
      · replace H := iff_ h10 H
        refine awp_exit ?_
        replace H := outl H hq9
        exact ⟨l8, H, ⟨rfl, rfl, trivial⟩, ⟨rfl, trivial⟩⟩
    · rintro out18 H
      replace H : gateref2_Decoded_J2 s1 out18 = some r := H
      unfold gateref2_Decoded_J2 at H
      refine awp_seq ?_
      refine awp_seq ?_
      refine t_freeze 7 1 rfl rfl rfl ?_
      refine awp_plain hN rfl ?_
      refine seq_run0 (stp_move (.dat _) rfl) ?_
      refine seq_run0 (stp_convB (C := C_uint8) tyU26 tyU5 tyU9 (fun _ => rfl) rfl) ?_
      obtain ⟨r19, h20, H⟩ := bnd H
      refine seq_run0 (stp_call (k_gateref2_Encoded (strN out18) r19 h20) ⟨.inl rfl, trivial⟩) ?_
      refine seq_run0 (stp_move (.dat _) rfl) ?_
      refine seq_run0 (stp_sneq rfl rfl) ?_
      refine awp_cond _ rfl (fun h21 => ?_) (fun h21 => ?_)
      · replace H := ift h21 H
        refine awp_seq ?_
        refine awp_plain hN rfl ?_
        refine seq_run0 (stp_assign (.dat _) rfl) ?_
        refine seq_run0 (stp_assign (.dat _) rfl) ?_
        refine awp_ret ?_
        cases H
        exact ⟨trivial, .inl rfl, .inl rfl, trivial⟩
      · replace H := iff_ h21 H
        refine awp_skip ?_
        refine awp_seq ?_
        refine awp_plain hN rfl ?_
        refine seq_run0 (stp_move (.dat _) rfl) ?_
        refine seq_run0 (stp_convB (C := C_uint8) tyU26 tyU5 tyU9 (fun _ => rfl) rfl) ?_
        refine seq_run0 (stp_assign (.dat _) rfl) ?_
        refine seq_run0 (stp_assign (.dat _) rfl) ?_
        refine awp_ret ?_
        cases H
        exact ⟨trivial, .inl rfl, .inl rfl, trivial⟩
  · rintro k3 x6 bits2 q4 h22 h23 H hq4
    replace H : gateref2_Decoded_L1 k3 x6 bits2 = some q4 := H
    unfold gateref2_Decoded_L1 at H
    refine awp_seq ?_
    refine awp_plain hN rfl ?_
    refine seq_run0 (stp_lss rfl rfl) ?_
    refine awp_seq ?_
    refine awp_cond _ rfl (fun h => ?_) (fun h => (lt_f h22 h).elim)
    refine awp_skip ?_
    refine awp_seq ?_
    refine awp_block ?_
    refine awp_seq ?_
    refine awp_plain hN rfl ?_
    refine seq_run0 (stp_move (.dat _) rfl) ?_
    refine seq_run0 (stp_assign (.dat _) rfl) ?_
    refine awp_seq ?_
    refine awp_plain hN rfl ?_
    refine seq_run0 (stp_move (.dat _) rfl) ?_
    refine seq_run0 (stp_move (.dat _) rfl) ?_
    refine seq_run0 (t_byte tyU9 rfl rfl h23) ?_
    obtain ⟨r24, h25, H⟩ := bnd H
    refine seq_run0 (stp_call (k_strings_IndexByte [65, 66, 67, 68, 69, 70, 71, 72, 73, 74, 75, 76, 77, 78, 79, 80, 81, 82, 83, 84, 85, 86, 87, 88, 89, 90, 97, 98, 99, 100, 101, 102, 103, 104, 105, 106, 107, 108, 109, 110, 111, 112, 113, 114, 115, 116, 117, 118, 119, 120, 121, 122, 48, 49, 50, 51, 52, 53, 54, 55, 56, 57, 45, 95] (x6.toNat : Int) r24 h25) ⟨.inl rfl, .inl rfl, trivial⟩) ?_
    refine seq_run0 (stp_assign (.dat _) rfl) ?_
    refine awp_seq ?_
    refine awp_seq ?_
    refine awp_plain hN rfl ?_
    refine seq_run0 (stp_move (.dat _) rfl) ?_
    refine seq_run0 (stp_lss rfl rfl) ?_
    refine awp_cond _ rfl (fun h26 => ?_) (fun h26 => ?_)
    · replace H := ift h26 H
      refine awp_seq ?_
      refine awp_plain hN rfl ?_
      refine seq_run0 (stp_assign (.dat _) rfl) ?_
      refine seq_run0 (stp_assign (.dat _) rfl) ?_
      refine awp_ret ?_
      replace H := retl H hq4
      cases H
      exact ⟨trivial, .inl rfl, .inl rfl, trivial⟩
    · replace H := iff_ h26 H
      refine awp_skip ?_
      refine awp_plain hN rfl ?_
      refine seq_run0 (stp_move (.dat _) rfl) ?_
      refine seq_run0 (stp_move (.dat _) rfl) ?_
      refine seq_run0 (stp_wrap _ rfl rfl (.inl ⟨rfl, rfl⟩)) ?_
      obtain ⟨r27, h28, H⟩ := bnd H
      refine seq_run0 (stp_call (k_strconv_FormatInt (wr (64 + r24)) 2 r27 h28) ⟨.inl rfl, .inl rfl, trivial⟩) ?_
      obtain ⟨l29, h30, H⟩ := bnd H
      refine seq_run0 (t_subS tyU9 rfl rfl rfl h30) ?_
      obtain ⟨h31, H⟩ := gif H
      refine seq_run0 (stp_sadd rfl rfl (Nat.le_trans h31 (by decide))) ?_
      refine seq_run0 (stp_assign (.dat _) rfl) ?_
      refine awp_plain hN rfl ?_
      refine seq_run0 (stp_add rfl rfl (by omega)) ?_
      refine seq_run0 (stp_move (.dat _) rfl) ?_
      exact ⟨_, backl H, ⟨rfl, rfl, rfl, rfl, trivial⟩, trivial⟩
theorem k_token_secretFault (s1 : Bs) (r : (Int)) (H : m_token_secretFault s1 = some r) : Fn Tryd.prog 22 [vstr s1] (resOf [vint r]) := by
  refine ⟨by kernel_rfl, pure_of (us := [vint r]) Tryd.func22 rfl rfl rfl rfl fun X hN => ?_⟩
  unfold m_token_secretFault at H
  refine awp_seq ?_
  refine awp_plain hN rfl ?_
  refine seq_run0 (stp_assign (.dat _) rfl) ?_
  refine awp_seq ?_
  refine awp_seq ?_
  refine awp_plain hN rfl ?_
  refine seq_run0 (stp_move (.dat _) rfl) ?_
  refine seq_run0 (stp_len_str tyU9 rfl) ?_
  refine seq_run0 (stp_move (.dat _) rfl) ?_
  refine awp_block ?_
  obtain ⟨h4, H⟩ := gif H
  refine awp_forL (fun (k2 : Nat) (s : Unit) => [(0, .dat (vstr s1)), (5, .dat (vint (s1.length : Int))), (6, .dat (vint (k2 : Int)))]) (fun (k2 : Nat) (s : Unit) => []) () H ⟨rfl, rfl, rfl, trivial⟩ trivial (fun _ _ => rfl) ?_ ?_
  · rintro ⟨⟩ H
    replace H : token_secretFault_E1 s1 = some r := H
    unfold token_secretFault_E1 at H
    refine awp_seq ?_
    refine awp_plain hN rfl ?_
    refine seq_run0 (stp_lss rfl rfl) ?_
    refine awp_seq ?_
    refine awp_cond _ rfl (fun h => (lt_t h).elim) (fun h => ?_)
    refine awp_exit ?_
    refine awp_seq ?_
    refine awp_seq ?_
    refine awp_plain hN rfl ?_
    refine seq_run0 (stp_move (.dat _) rfl) ?_
    refine seq_run0 (stp_seql rfl rfl) ?_
    refine awp_cond _ rfl (fun h6 => ?_) (fun h6 => ?_)
    · replace H := ift h6 H
      refine awp_seq ?_
      refine awp_plain hN rfl ?_
      refine seq_run0 (stp_assign (.dat _) rfl) ?_
      refine awp_ret ?_
      cases H
      exact ⟨trivial, .inl rfl, trivial⟩
    · replace H := iff_ h6 H
      refine awp_skip ?_
      refine awp_seq ?_
      refine awp_seq ?_
      refine awp_plain hN rfl ?_
      refine seq_run0 (stp_move (.dat _) rfl) ?_
      refine seq_run0 (stp_len_str tyU9 rfl) ?_
      refine seq_run0 (stp_gtr rfl rfl) ?_
      refine awp_cond _ rfl (fun h7 => ?_) (fun h7 => ?_)
      · replace H := ift h7 H
        refine awp_seq ?_
        refine awp_plain hN rfl ?_
        refine seq_run0 (stp_assign (.dat _) rfl) ?_
        refine awp_ret ?_
        cases H
        exact ⟨trivial, .inl rfl, trivial⟩
      · replace H := iff_ h7 H
        refine awp_skip ?_
        refine awp_seq ?_
        refine awp_plain hN rfl ?_
        refine seq_run0 (stp_assign (.dat _) rfl) ?_
        refine awp_ret ?_
        cases H
        exact ⟨trivial, .inl rfl, trivial⟩
  · rintro k2 x5 ⟨⟩ q3 h8 h9 H hq3
    replace H : token_secretFault_L1 k2 x5 = some q3 := H
    unfold token_secretFault_L1 at H
    refine awp_seq ?_
    refine awp_plain hN rfl ?_
    refine seq_run0 (stp_lss rfl rfl) ?_
    refine awp_seq ?_
    refine awp_cond _ rfl (fun h => ?_) (fun h => (lt_f h8 h).elim)
    refine awp_skip ?_
    refine awp_seq ?_
    refine awp_block ?_
    refine awp_seq ?_
    refine awp_plain hN rfl ?_
    refine seq_run0 (stp_move (.dat _) rfl) ?_
    refine seq_run0 (stp_assign (.dat _) rfl) ?_
    refine awp_joinE (ι := Bool) (fun i => [(0, .dat (vstr s1)), (5, .dat (vint (s1.length : Int))), (6, .dat (vint (k2 : Int))), (18, .dat (vbool i))]) (fun i => []) (fun i => token_secretFault_J2 i = some q3) (fun i => rfl) ?_ ?_
    · skip
      refine awp_plain hN rfl ?_
      refine seq_run0 (stp_move (.dat _) rfl) ?_
      refine seq_run0 (stp_move (.dat _) rfl) ?_
      refine seq_run0 (t_byte tyU9 rfl rfl h9) ?_
      refine seq_run0 (stp_lss rfl rfl) ?_
      refine seq_run0 (stp_move (.dat _) rfl) ?_
      refine seq_split (j := 4) rfl rfl (fun h10 => ?_) (fun h10 => ?_) rfl
      · have h11 := un3 h10
        replace H := iff_ h11 H
        refine seq_g0 rfl rfl h10 (stp_move (.dat _) rfl) ?_
        refine seq_g0 rfl rfl h10 (stp_move (.dat _) rfl) ?_
        refine seq_g0 rfl rfl h10 (t_byte tyU9 rfl rfl h9) ?_
        refine seq_g0 rfl rfl h10 (stp_gtr rfl rfl) ?_
        refine seq_run0 (stp_pick_f rfl (bFF h11) rfl) ?_
        exact ⟨decide (126 < (x5.toNat : Int)), H, ⟨rfl, rfl, rfl, rfl, trivial⟩, trivial⟩
      · have h12 := un4 h10
        replace H := ift h12 H
        refine seq_skip rfl rfl h10 ?_
        refine seq_skip rfl rfl h10 ?_
        refine seq_skip rfl rfl h10 ?_
        refine seq_skip rfl rfl h10 ?_
        refine seq_run0 (stp_pick_t rfl (bTT h12) rfl) ?_
        exact ⟨true, H, ⟨rfl, rfl, rfl, rfl, trivial⟩, trivial⟩
    · rintro v13 H
      replace H : token_secretFault_J2 v13 = some q3 := H
      unfold token_secretFault_J2 at H
      refine awp_cond _ rfl (fun h14 => ?_) (fun h14 => ?_)
      · replace H := ift h14 H
        refine awp_seq ?_
        refine awp_plain hN rfl ?_
        refine seq_run0 (stp_assign (.dat _) rfl) ?_
        refine awp_ret ?_
        replace H := retl H hq3
        cases H
        exact ⟨trivial, .inl rfl, trivial⟩
      · replace H := iff_ h14 H
        refine awp_skip ?_
        refine awp_plain hN rfl ?_
        refine seq_run0 (stp_add rfl rfl (by omega)) ?_
        refine seq_run0 (stp_move (.dat _) rfl) ?_
        exact ⟨_, backl H, ⟨rfl, rfl, rfl, trivial⟩, trivial⟩
theorem k_internal_strconv_FormatUint (i1 : Int) (base2 : Int) (r : (Bs)) (H : m_internal_strconv_FormatUint i1 base2 = some r) : Fn Tryd.prog 55 [vval (.int .u64 i1), vint base2] (resOf [vstr r]) := by
  refine ⟨by kernel_rfl, pure_of (us := [vstr r]) Tryd.func55 rfl rfl rfl rfl fun X hN => ?_⟩
  unfold m_internal_strconv_FormatUint at H
  refine awp_seq ?_
  refine awp_plain hN rfl ?_
  refine seq_run0 (stp_assign (.dat _) rfl) ?_
  refine awp_seq ?_
  refine awp_seq ?_
  refine awp_plain hN rfl ?_
  refine seq_run0 (stp_move (.dat _) rfl) ?_
  refine seq_run0 (stp_eql rfl rfl) ?_
  refine awp_cond _ rfl (fun h3 => ?_) (fun h3 => ?_)
  · replace H := ift h3 H
    refine awp_seq ?_
    refine awp_seq ?_
    refine awp_plain hN rfl ?_
    refine seq_run0 (stp_move (.dat _) rfl) ?_
    refine seq_run0 (stp_lss rfl rfl) ?_
    refine awp_cond _ rfl (fun h4 => ?_) (fun h4 => ?_)
    · replace H := ift h4 H
      refine awp_seq ?_
      refine awp_plain hN rfl ?_
      refine seq_run0 (stp_move (.dat _) rfl) ?_
      refine seq_run0 (stp_conv tyU50 tyU3 rfl) ?_
      obtain ⟨r5, h6, H⟩ := bnd H
      refine seq_run0 (stp_call (k_internal_strconv_small (IntKind.wrap .i64 i1) r5 h6) ⟨.inl rfl, trivial⟩) ?_
      refine seq_run0 (stp_assign (.dat _) rfl) ?_
      refine awp_ret ?_
      cases H
      exact ⟨trivial, .inl rfl, trivial⟩
    · replace H := iff_ h4 H
      cases H
  · replace H := iff_ h3 H
    refine awp_skip ?_
    refine awp_seq ?_
    refine awp_plain hN rfl ?_
    refine seq_run0 (stp_move (.dat _) rfl) ?_
    refine seq_run0 (stp_move (.dat _) rfl) ?_
    obtain ⟨r7, h8, H⟩ := bnd H
    refine seq_run0 (stp_call (k_internal_strconv_formatBits ([] : (List Int)) i1 base2 false false r7 h8) ⟨.inr ⟨rfl, rfl⟩, .inl rfl, .inl rfl, .inl rfl, .inl rfl, trivial⟩) ?_
    refine seq_run0 (stp_move (.dat _) rfl) ?_
    refine seq_run0 (stp_ext rfl rfl) ?_
    refine seq_run0 (stp_ext rfl rfl) ?_
    refine seq_run0 (stp_assign (.dat _) rfl) ?_
    refine seq_run0 (stp_assign (.dat _) rfl) ?_
    refine awp_seq ?_
    refine awp_plain hN rfl ?_
    refine seq_run0 (stp_move (.dat _) rfl) ?_
    refine seq_run0 (stp_assign (.dat _) rfl) ?_
    refine awp_ret ?_
    cases H
    exact ⟨trivial, .inl rfl, trivial⟩
theorem k_strconv_FormatUint (i1 : Int) (base2 : Int) (r : (Bs)) (H : m_strconv_FormatUint i1 base2 = some r) : Fn Tryd.prog 38 [vval (.int .u64 i1), vint base2] (resOf [vstr r]) := by
  refine ⟨by kernel_rfl, pure_of (us := [vstr r]) Tryd.func38 rfl rfl rfl rfl fun X hN => ?_⟩
  unfold m_strconv_FormatUint at H
  refine awp_seq ?_
  refine awp_plain hN rfl ?_
  refine seq_run0 (stp_assign (.dat _) rfl) ?_
  refine awp_seq ?_
  refine awp_plain hN rfl ?_
  refine seq_run0 (stp_move (.dat _) rfl) ?_
  refine seq_run0 (stp_move (.dat _) rfl) ?_
  obtain ⟨r3, h4, H⟩ := bnd H
  refine seq_run0 (stp_call (k_internal_strconv_FormatUint i1 base2 r3 h4) ⟨.inl rfl, .inl rfl, trivial⟩) ?_
  refine seq_run0 (stp_assign (.dat _) rfl) ?_
  refine awp_ret ?_
  cases H
  exact ⟨trivial, .inl rfl, trivial⟩
theorem k_token_sum (secret1 : Bs) (text2 : Bs) (r : (Bs)) (H : m_token_sum secret1 text2 = some r) : Fn Tryd.prog 23 [vstr secret1, vstr text2] (resOf [vstr r]) := by
  refine ⟨by kernel_rfl, pure_of (us := [vstr r]) Tryd.func23 rfl rfl rfl rfl fun X hN => ?_⟩
  unfold m_token_sum at H
  refine awp_seq ?_
  refine awp_plain hN rfl ?_
  refine seq_run0 (stp_assign (.dat _) rfl) ?_
  refine awp_seq ?_
  refine awp_plain hN rfl ?_
  refine seq_run0 (stp_assign (.dat _) rfl) ?_
  refine awp_seq ?_
  refine awp_seq ?_
  refine awp_plain hN rfl ?_
  refine seq_run0 (stp_move (.dat _) rfl) ?_
  refine seq_run0 (stp_move (.dat _) rfl) ?_
  refine seq_run0 (stp_move (.dat _) rfl) ?_
  refine seq_run0 (stp_dat (u' := vlst (List.map C_string [secret1, [0], text2, [0], secret1])) (stp_lit [[_], [_], [_], [_], [_]] tyL54 ⟨rfl, .inl ⟨_, rfl, rfl, rfl⟩, rfl, rfl, .inl ⟨_, rfl, rfl, rfl⟩, rfl, rfl, .inl ⟨_, rfl, rfl, rfl⟩, rfl, rfl, .inl ⟨_, rfl, rfl, rfl⟩, rfl, rfl, .inl ⟨_, rfl, rfl, rfl⟩, rfl, trivial⟩ rfl rfl) rfl) ?_
  refine seq_run0 (t_len tyU54 rfl) ?_
  refine seq_run0 (stp_move (.dat _) rfl) ?_
  refine awp_block ?_
  obtain ⟨h6, H⟩ := gif H
  refine awp_forL (fun (k4 : Nat) (s : Int) => [(5, .dat (vval (.int .u64 s))), (13, .dat (vlst (List.map C_string ([secret1, [0], text2, [0], secret1])))), (14, .dat (vint (([secret1, [0], text2, [0], secret1]).length : Int))), (15, .dat (vint (k4 : Int)))]) (fun (k4 : Nat) (s : Int) => []) 14695981039346656037 H ⟨rfl, rfl, rfl, rfl, trivial⟩ trivial (fun _ _ => rfl) ?_ ?_
  · rintro h3 H
    replace H : token_sum_E1 h3 = some r := H
    unfold token_sum_E1 at H
    refine awp_seq ?_
    refine awp_plain hN rfl ?_
    refine seq_run0 (stp_lss rfl rfl) ?_
    refine awp_seq ?_
    refine awp_cond _ rfl (fun h => (lt_t h).elim) (fun h => ?_)
    refine awp_exit ?_
    refine awp_seq ?_
    refine awp_seq ?_
    refine awp_plain hN rfl ?_
    refine seq_run0 (stp_move (.dat _) rfl) ?_
    refine awp_block ?_
    obtain ⟨h11, H⟩ := gif H
    refine awp_rng (fun (k9 : Nat) (s : Int) => [(5, .dat (vval (.int .u64 s))), (33, .dat (vint (k9 : Int)))]) (fun (k9 : Nat) (s : Int) => []) h3 H ⟨rfl, rfl, trivial⟩ trivial (fun _ _ => rfl) ?_ ?_
    · rintro h8 H
      replace H : token_sum_E2 h8 = some r := H
      unfold token_sum_E2 at H
      refine awp_seq ?_
      refine awp_plain hN rfl ?_
      refine seq_run0 (stp_lss rfl rfl) ?_
      refine awp_seq ?_
      refine awp_cond _ rfl (fun h => (lt_t h).elim) (fun h => ?_)
      refine awp_exit ?_
      refine awp_seq ?_
      refine awp_plain hN rfl ?_
      refine seq_run0 (stp_move (.dat _) rfl) ?_
      obtain ⟨r12, h13, H⟩ := bnd H
      refine seq_run0 (stp_call (k_strconv_FormatUint h8 16 r12 h13) ⟨.inl rfl, .inl rfl, trivial⟩) ?_
      refine seq_run0 (stp_assign (.dat _) rfl) ?_
      refine awp_seq ?_
      refine awp_plain hN rfl ?_
      refine seq_run0 (stp_move (.dat _) rfl) ?_
      refine seq_run0 (stp_len_str tyU9 rfl) ?_
      refine seq_run0 (stp_wrap _ rfl rfl (.inr (.inl ⟨rfl, rfl⟩))) ?_
      obtain ⟨r14, h15, H⟩ := bnd H
      refine seq_run0 (stp_call (k_strings_Repeat [48] (wr (16 - (r12.length : Int))) r14 h15) ⟨.inl rfl, .inl rfl, trivial⟩) ?_
      refine seq_run0 (stp_move (.dat _) rfl) ?_
      obtain ⟨h16, H⟩ := gif H
      refine seq_run0 (stp_sadd rfl rfl (Nat.le_trans h16 (by decide))) ?_
      refine seq_run0 (stp_assign (.dat _) rfl) ?_
      refine awp_ret ?_
      cases H
      exact ⟨trivial, .inl rfl, trivial⟩
    · rintro k9 h8 q10 h17 H hq10
      replace H : token_sum_L2 k9 h8 = some q10 := H
      unfold token_sum_L2 at H
      refine awp_seq ?_
      refine awp_plain hN rfl ?_
      refine seq_run0 (stp_lss rfl rfl) ?_
      refine awp_seq ?_
      refine awp_cond _ rfl (fun h => ?_) (fun h => (lt_f h17 h).elim)
      refine awp_skip ?_
      refine awp_seq ?_
      refine awp_block ?_
      refine awp_plain hN rfl ?_
      refine seq_run0 (stp_move (.dat _) rfl) ?_
      refine seq_run0 (stp_move (.dat _) rfl) ?_
      refine seq_run0 (stp_dat (stp_shr rfl rfl (by decide)) rfl) ?_
      refine seq_run0 (stp_dat (stp_xor rfl rfl) rfl) ?_
      refine seq_run0 (stp_wrap _ rfl rfl (.inr (.inr ⟨rfl, rfl⟩))) ?_
      refine seq_run0 (stp_assign (.dat _) rfl) ?_
      refine awp_plain hN rfl ?_
      refine seq_run0 (stp_add rfl rfl (by omega)) ?_
      refine seq_run0 (stp_move (.dat _) rfl) ?_
      exact ⟨_, backl H, ⟨rfl, rfl, trivial⟩, trivial⟩
  · rintro k4 x7 h3 q5 h18 h19 H hq5
    replace H : token_sum_L1 k4 x7 h3 = some q5 := H
    unfold token_sum_L1 at H
    refine awp_seq ?_
    refine awp_plain hN rfl ?_
    refine seq_run0 (stp_lss rfl rfl) ?_
    refine awp_seq ?_
    refine awp_cond _ rfl (fun h => ?_) (fun h => (lt_f h18 h).elim)
    refine awp_skip ?_
    refine awp_seq ?_
    refine awp_block ?_
    refine awp_seq ?_
    refine awp_plain hN rfl ?_
    refine seq_run0 (t_idx tyE54 (fun _ => rfl) rfl rfl h19) ?_
    refine seq_run0 (stp_loadE1 tyS9 rfl (map_at h19) rfl) ?_
    refine seq_run0 (stp_assign (.dat _) rfl) ?_
    refine awp_seq ?_
    refine awp_plain hN rfl ?_
    refine seq_run0 (stp_move (.dat _) rfl) ?_
    refine seq_run0 (stp_len_str tyU9 rfl) ?_
    refine seq_run0 (stp_move (.dat _) rfl) ?_
    refine awp_block ?_
    obtain ⟨h23, H⟩ := gif H
    refine awp_forL (fun (k21 : Nat) (s : Int) => [(5, .dat (vval (.int .u64 s))), (7, .dat (vstr x7)), (13, .dat (vlst (List.map C_string ([secret1, [0], text2, [0], secret1])))), (14, .dat (vint (([secret1, [0], text2, [0], secret1]).length : Int))), (15, .dat (vint (k4 : Int))), (20, .dat (vint (x7.length : Int))), (21, .dat (vint (k21 : Int)))]) (fun (k21 : Nat) (s : Int) => []) h3 H ⟨rfl, rfl, rfl, rfl, rfl, rfl, rfl, trivial⟩ trivial (fun _ _ => rfl) ?_ ?_
    · rintro h20 H
      replace H : token_sum_E3 h20 = some q5 := H
      unfold token_sum_E3 at H
      refine awp_seq ?_
      refine awp_plain hN rfl ?_
      refine seq_run0 (stp_lss rfl rfl) ?_
      refine awp_seq ?_
      refine awp_cond _ rfl (fun h => (lt_t h).elim) (fun h => ?_)
      refine awp_exit ?_
      refine awp_plain hN rfl ?_
      refine seq_run0 (stp_add rfl rfl (by omega)) ?_
      refine seq_run0 (stp_move (.dat _) rfl) ?_
      exact ⟨_, backl H, ⟨rfl, rfl, rfl, rfl, trivial⟩, trivial⟩
    · rintro k21 x24 h20 q22 h25 h26 H hq22
      replace H : token_sum_L3 k21 x24 h20 = some q22 := H
      unfold token_sum_L3 at H
      refine awp_seq ?_
      refine awp_plain hN rfl ?_
      refine seq_run0 (stp_lss rfl rfl) ?_
      refine awp_seq ?_
      refine awp_cond _ rfl (fun h => ?_) (fun h => (lt_f h25 h).elim)
      refine awp_skip ?_
      refine awp_seq ?_
      refine awp_block ?_
      refine awp_seq ?_
      refine awp_plain hN rfl ?_
      refine seq_run0 (stp_move (.dat _) rfl) ?_
      refine seq_run0 (stp_assign (.dat _) rfl) ?_
      refine awp_plain hN rfl ?_
      refine seq_run0 (stp_move (.dat _) rfl) ?_
      refine seq_run0 (stp_move (.dat _) rfl) ?_
      refine seq_run0 (stp_move (.dat _) rfl) ?_
      refine seq_run0 (t_byte tyU9 rfl rfl h26) ?_
      refine seq_run0 (stp_conv tyU5 tyU50 rfl) ?_
      refine seq_run0 (stp_dat (stp_xor rfl rfl) rfl) ?_
      refine seq_run0 (stp_wrap _ rfl rfl (.inr (.inr ⟨rfl, rfl⟩))) ?_
      refine seq_run0 (stp_assign (.dat _) rfl) ?_
      refine awp_plain hN rfl ?_
      refine seq_run0 (stp_add rfl rfl (by omega)) ?_
      refine seq_run0 (stp_move (.dat _) rfl) ?_
      exact ⟨_, backl H, ⟨rfl, rfl, rfl, rfl, rfl, rfl, rfl, trivial⟩, trivial⟩
theorem k_token_Sum (secret1 : Bs) (text2 : Bs) (r : (Bs × Int)) (H : m_token_Sum secret1 text2 = some r) : Fn Tryd.prog 11 [vstr secret1, vstr text2] (resOf [vstr r.1, vint r.2]) := by
  refine ⟨by kernel_rfl, pure_of (us := [vstr r.1, vint r.2]) Tryd.func11 rfl rfl rfl rfl fun X hN => ?_⟩
  unfold m_token_Sum at H
  refine awp_seq ?_
  refine awp_plain hN rfl ?_
  refine seq_run0 (stp_assign (.dat _) rfl) ?_
  refine seq_run0 (stp_assign (.dat _) rfl) ?_
  refine awp_seq ?_
  refine awp_seq ?_
  refine awp_plain hN rfl ?_
  refine seq_run0 (stp_move (.dat _) rfl) ?_
  obtain ⟨r3, h4, H⟩ := bnd H
  refine seq_run0 (stp_call (k_token_secretFault secret1 r3 h4) ⟨.inl rfl, trivial⟩) ?_
  refine seq_run0 (stp_assign (.dat _) rfl) ?_
  refine awp_seq ?_
  refine awp_plain hN rfl ?_
  refine seq_run0 (stp_move (.dat _) rfl) ?_
  refine seq_run0 (stp_neq rfl rfl) ?_
  refine awp_cond _ rfl (fun h5 => ?_) (fun h5 => ?_)
  · replace H := ift h5 H
    refine awp_seq ?_
    refine awp_plain hN rfl ?_
    refine seq_run0 (stp_move (.dat _) rfl) ?_
    refine seq_run0 (stp_assign (.dat _) rfl) ?_
    refine seq_run0 (stp_assign (.dat _) rfl) ?_
    refine awp_ret ?_
    cases H
    exact ⟨trivial, .inl rfl, .inl rfl, trivial⟩
  · replace H := iff_ h5 H
    refine awp_skip ?_
    refine awp_seq ?_
    refine awp_plain hN rfl ?_
    refine seq_run0 (stp_move (.dat _) rfl) ?_
    refine seq_run0 (stp_move (.dat _) rfl) ?_
    obtain ⟨r6, h7, H⟩ := bnd H
    refine seq_run0 (stp_call (k_token_sum secret1 text2 r6 h7) ⟨.inl rfl, .inl rfl, trivial⟩) ?_
    refine seq_run0 (stp_assign (.dat _) rfl) ?_
    refine seq_run0 (stp_assign (.dat _) rfl) ?_
    refine awp_ret ?_
    cases H
    exact ⟨trivial, .inl rfl, .inl rfl, trivial⟩
theorem k_gateref2_visible (s1 : Bs) (low2 : Int) (r : (Bool)) (H : m_gateref2_visible s1 low2 = some r) : Fn Tryd.prog 24 [vstr s1, vval (.int .u8 low2)] (resOf [vbool r]) := by
  refine ⟨by kernel_rfl, pure_of (us := [vbool r]) Tryd.func24 rfl rfl rfl rfl fun X hN => ?_⟩
  unfold m_gateref2_visible at H
  refine awp_seq ?_
  refine awp_plain hN rfl ?_
  refine seq_run0 (stp_assign (.dat _) rfl) ?_
  refine awp_seq ?_
  refine awp_seq ?_
  refine awp_plain hN rfl ?_
  refine seq_run0 (stp_move (.dat _) rfl) ?_
  refine seq_run0 (stp_len_str tyU9 rfl) ?_
  refine seq_run0 (stp_move (.dat _) rfl) ?_
  refine awp_block ?_
  obtain ⟨h5, H⟩ := gif H
  refine awp_forL (fun (k3 : Nat) (s : Unit) => [(0, .dat (vstr s1)), (1, .dat (vval (.int .u8 low2))), (7, .dat (vint (s1.length : Int))), (8, .dat (vint (k3 : Int)))]) (fun (k3 : Nat) (s : Unit) => []) () H ⟨rfl, rfl, rfl, rfl, trivial⟩ trivial (fun _ _ => rfl) ?_ ?_
  · rintro ⟨⟩ H
    replace H : gateref2_visible_E1 = some r := H
    unfold gateref2_visible_E1 at H
    refine awp_seq ?_
    refine awp_plain hN rfl ?_
    refine seq_run0 (stp_lss rfl rfl) ?_
    refine awp_seq ?_
    refine awp_cond _ rfl (fun h => (lt_t h).elim) (fun h => ?_)
    refine awp_exit ?_
    refine awp_seq ?_
    refine awp_plain hN rfl ?_
    refine seq_run0 (stp_assign (.dat _) rfl) ?_
    refine awp_ret ?_
    cases H
    exact ⟨trivial, .inl rfl, trivial⟩
  · rintro k3 x6 ⟨⟩ q4 h7 h8 H hq4
    replace H : gateref2_visible_L1 low2 k3 x6 = some q4 := H
    unfold gateref2_visible_L1 at H
    refine awp_seq ?_
    refine awp_plain hN rfl ?_
    refine seq_run0 (stp_lss rfl rfl) ?_
    refine awp_seq ?_
    refine awp_cond _ rfl (fun h => ?_) (fun h => (lt_f h7 h).elim)
    refine awp_skip ?_
    refine awp_seq ?_
    refine awp_block ?_
    refine awp_seq ?_
    refine awp_plain hN rfl ?_
    refine seq_run0 (stp_move (.dat _) rfl) ?_
    refine seq_run0 (stp_assign (.dat _) rfl) ?_
    refine awp_joinE (ι := Bool) (fun i => [(0, .dat (vstr s1)), (1, .dat (vval (.int .u8 low2))), (7, .dat (vint (s1.length : Int))), (8, .dat (vint (k3 : Int))), (21, .dat (vbool i))]) (fun i => []) (fun i => gateref2_visible_J2 i = some q4) (fun i => rfl) ?_ ?_
    · skip
      refine awp_plain hN rfl ?_
      refine seq_run0 (stp_move (.dat _) rfl) ?_
      refine seq_run0 (stp_move (.dat _) rfl) ?_
      refine seq_run0 (t_byte tyU9 rfl rfl h8) ?_
      refine seq_run0 (stp_move (.dat _) rfl) ?_
      refine seq_run0 (stp_lss rfl rfl) ?_
      refine seq_run0 (stp_move (.dat _) rfl) ?_
      refine seq_split (j := 5) rfl rfl (fun h9 => ?_) (fun h9 => ?_) rfl
      · have h10 := un3 h9
        replace H := iff_ h10 H
        refine seq_g0 rfl rfl h9 (stp_move (.dat _) rfl) ?_
        refine seq_g0 rfl rfl h9 (stp_move (.dat _) rfl) ?_
        refine seq_g0 rfl rfl h9 (t_byte tyU9 rfl rfl h8) ?_
        refine seq_g0 rfl rfl h9 (stp_gtr rfl rfl) ?_
        refine seq_run0 (stp_pick_f rfl (bFF h10) rfl) ?_
        exact ⟨decide (126 < (x6.toNat : Int)), H, ⟨rfl, rfl, rfl, rfl, rfl, trivial⟩, trivial⟩
      · have h11 := un4 h9
        replace H := ift h11 H
        refine seq_skip rfl rfl h9 ?_
        refine seq_skip rfl rfl h9 ?_
        refine seq_skip rfl rfl h9 ?_
        refine seq_skip rfl rfl h9 ?_
        refine seq_run0 (stp_pick_t rfl (bTT h11) rfl) ?_
        exact ⟨true, H, ⟨rfl, rfl, rfl, rfl, rfl, trivial⟩, trivial⟩
    · rintro v12 H
      replace H : gateref2_visible_J2 v12 = some q4 := H
      unfold gateref2_visible_J2 at H
      refine awp_cond _ rfl (fun h13 => ?_) (fun h13 => ?_)
      · replace H := ift h13 H
        refine awp_seq ?_
        refine awp_plain hN rfl ?_
        refine seq_run0 (stp_assign (.dat _) rfl) ?_
        refine awp_ret ?_
        replace H := retl H hq4
        cases H
        exact ⟨trivial, .inl rfl, trivial⟩
      · replace H := iff_ h13 H
        refine awp_skip ?_
        refine awp_plain hN rfl ?_
        refine seq_run0 (stp_add rfl rfl (by omega)) ?_
        refine seq_run0 (stp_move (.dat _) rfl) ?_
        exact ⟨_, backl H, ⟨rfl, rfl, rfl, rfl, trivial⟩, trivial⟩
theorem k_gateref2_SecretFault (s1 : Bs) (r : (Int)) (H : m_gateref2_SecretFault s1 = some r) : Fn Tryd.prog 12 [vstr s1] (resOf [vint r]) := by
  refine ⟨by kernel_rfl, pure_of (us := [vint r]) Tryd.func12 rfl rfl rfl rfl fun X hN => ?_⟩
  unfold m_gateref2_SecretFault at H
  refine awp_seq ?_
  refine awp_plain hN rfl ?_
  refine seq_run0 (stp_assign (.dat _) rfl) ?_
  refine awp_seq ?_
  refine awp_joinE (ι := Bool) (fun i => [(0, .dat (vstr s1)), (9, .dat (vbool i))]) (fun i => []) (fun i => gateref2_SecretFault_J1 s1 i = some r) (fun i => rfl) ?_ ?_
  · skip
    refine awp_plain hN rfl ?_
    refine seq_run0 (stp_move (.dat _) rfl) ?_
    refine seq_run0 (stp_seql rfl rfl) ?_
    refine seq_run0 (stp_move (.dat _) rfl) ?_
    refine seq_split (j := 2) rfl rfl (fun h2 => ?_) (fun h2 => ?_) rfl
    · have h3 := un3 h2
      replace H := iff_ h3 H
      refine seq_g0 rfl rfl h2 (stp_move (.dat _) rfl) ?_
      obtain ⟨r4, h5, H⟩ := bnd H
      refine seq_g0 rfl rfl h2 (stp_call (k_gateref2_visible s1 33 r4 h5) ⟨.inl rfl, .inl rfl, trivial⟩) ?_
      refine seq_g0 rfl rfl h2 (stp_not rfl) ?_
      refine seq_run0 (stp_pick_f rfl (bFF h3) rfl) ?_
      exact ⟨!r4, H, ⟨rfl, rfl, trivial⟩, trivial⟩
    · have h6 := un4 h2
      replace H := ift h6 H
      refine seq_skip rfl rfl h2 ?_
      refine seq_skip rfl rfl h2 ?_
      refine seq_skip rfl rfl h2 ?_
      refine seq_run0 (stp_pick_t rfl (bTT h6) rfl) ?_
      exact ⟨true, H, ⟨rfl, rfl, trivial⟩, trivial⟩
  · rintro v7 H
    replace H : gateref2_SecretFault_J1 s1 v7 = some r := H
    unfold gateref2_SecretFault_J1 at H
    refine awp_cond _ rfl (fun h8 => ?_) (fun h8 => ?_)
    · replace H := ift h8 H
      refine awp_seq ?_
      refine awp_plain hN rfl ?_
      refine seq_run0 (stp_assign (.dat _) rfl) ?_
      refine awp_ret ?_
      cases H
      exact ⟨trivial, .inl rfl, trivial⟩
    · replace H := iff_ h8 H
      refine awp_skip ?_
      refine awp_seq ?_
      refine awp_seq ?_
      refine awp_plain hN rfl ?_
      refine seq_run0 (stp_move (.dat _) rfl) ?_
      refine seq_run0 (stp_len_str tyU9 rfl) ?_
      refine seq_run0 (stp_gtr rfl rfl) ?_
      refine awp_cond _ rfl (fun h9 => ?_) (fun h9 => ?_)
      · replace H := ift h9 H
        refine awp_seq ?_
        refine awp_plain hN rfl ?_
        refine seq_run0 (stp_assign (.dat _) rfl) ?_
        refine awp_ret ?_
        cases H
        exact ⟨trivial, .inl rfl, trivial⟩
      · replace H := iff_ h9 H
        refine awp_skip ?_
        refine awp_seq ?_
        refine awp_plain hN rfl ?_
        refine seq_run0 (stp_assign (.dat _) rfl) ?_
        refine awp_ret ?_
        cases H
        exact ⟨trivial, .inl rfl, trivial⟩
theorem k_strings_Join (l : List Bs) (sep r : Bs) (H : m_strings_Join l sep = some r) : Fn Tryd.prog 39 [vlst (List.map C_string l), vstr sep] (resOf [vstr r]) := by
  obtain ⟨h1, h2, rfl⟩ := join_some H
  refine fn_of_callsG (by kernel_rfl) fun M w vs hM h => ?_
  obtain ⟨hl, hv⟩ := h
  obtain ⟨a, ha, hap⟩ := hv 0 _ rfl
  obtain ⟨s, hs, hsp⟩ := hv 1 _ rfl
  have hsp : s = .string ⟨sep.toArray⟩ := hsp
  subst hsp
  have hvs : vs.toArray = #[a, .string ⟨sep.toArray⟩] := by
    rcases vs with _ | ⟨x, _ | ⟨y, _ | ⟨z, t⟩⟩⟩
    · cases ha
    · cases hs
    · cases ha; cases hs; rfl
    · simp at hl
  rw [hvs]
  obtain ⟨A, c, q1, q2, q3⟩ := hap
  simp only [List.length_map] at q1 q2
  subst q1
  by_cases hne : l = []
  · subst hne
    refine (Tryd.strings_Join_none A c ⟨sep.toArray⟩ w).mono ?_
    rintro e w' ⟨rfl, rfl⟩
    exact ⟨_, rfl, rfl, Kp.refl _ _⟩
  · obtain ⟨b, off, size, rfl, hMb, arr, t, fz, q5, q6, q7⟩ := q3 (by simpa using hne)
    have hsz : size = 1 := by
      cases hq : l with
      | nil => exact absurd hq hne
      | cons x l' => have := q6 (C_string x) (by rw [hq]; simp); simpa using this.symm
    subst hsz
    have e1 : ((l.map fun x => ByteArray.mk x.toArray).map (·.data.toList)) = l := by
      rw [List.map_map]
      exact (List.map_congr_left fun x _ => rfl).trans (List.map_id l)
    have hj := Tryd.strings_Join b off c (l.map fun x => ByteArray.mk x.toArray) ⟨sep.toArray⟩ w (fun j x hx => by
      rw [List.getElem?_map] at hx
      cases hq : l[j]? with
      | none => rw [hq] at hx; cases hx
      | some y =>
        rw [hq] at hx
        cases hx
        obtain ⟨v, r1, r2, _⟩ := q7 j 0 (C_string y) (vstr y) (by rw [List.getElem?_map, hq]; rfl) rfl
        have r2 : v = .string ⟨y.toArray⟩ := r2
        rw [cell_of_row w b _ _ _ _ q5]
        simp only [Nat.mul_one, Nat.add_zero] at r1
        rw [r1, r2]) (heap_lt q5) (by simp; omega) (by simpa using q2) (by rw [e1]; simp only; omega)
    rw [List.length_map, e1] at hj
    refine hj.mono ?_
    rintro e w' ⟨rfl, hb⟩
    exact ⟨_, rfl, rfl, Kp.of_below hb⟩
theorem k_gateref2_hashed (l1 : (List Bs)) (r : (Int)) (H : m_gateref2_hashed l1 = some r) : Fn Tryd.prog 25 [vlst (List.map C_string l1)] (resOf [vval (.int .u64 r)]) := by
  refine ⟨by kernel_rfl, pure_of (us := [vval (.int .u64 r)]) Tryd.func25 rfl rfl rfl rfl fun X hN => ?_⟩
  unfold m_gateref2_hashed at H
  refine awp_seq ?_
  refine awp_plain hN rfl ?_
  refine seq_run0 (stp_assign (.dat _) rfl) ?_
  refine awp_seq ?_
  refine awp_plain hN rfl ?_
  refine seq_run0 (stp_assign (.dat _) rfl) ?_
  refine awp_seq ?_
  refine awp_plain hN rfl ?_
  refine seq_run0 (stp_move (.dat _) rfl) ?_
  obtain ⟨r2, h3, H⟩ := bnd H
  refine seq_run0 (stp_call (k_strings_Join l1 [0] r2 h3) ⟨.inl rfl, .inl rfl, trivial⟩) ?_
  refine seq_run0 (stp_assign (.dat _) rfl) ?_
  refine awp_seq ?_
  refine awp_seq ?_
  refine awp_plain hN rfl ?_
  refine seq_run0 (stp_move (.dat _) rfl) ?_
  refine seq_run0 (stp_len_str tyU9 rfl) ?_
  refine seq_run0 (stp_move (.dat _) rfl) ?_
  refine awp_block ?_
  obtain ⟨h7, H⟩ := gif H
  refine awp_forL (fun (k5 : Nat) (s : Int) => [(3, .dat (vval (.int .u64 s))), (4, .dat (vstr r2)), (9, .dat (vint (r2.length : Int))), (10, .dat (vint (k5 : Int)))]) (fun (k5 : Nat) (s : Int) => []) 14695981039346656037 H ⟨rfl, rfl, rfl, rfl, trivial⟩ trivial (fun _ _ => rfl) ?_ ?_
  · rintro h4 H
    replace H : gateref2_hashed_E1 h4 = some r := H
    unfold gateref2_hashed_E1 at H
    refine awp_seq ?_
    refine awp_plain hN rfl ?_
    refine seq_run0 (stp_lss rfl rfl) ?_
    refine awp_seq ?_
    refine awp_cond _ rfl (fun h => (lt_t h).elim) (fun h => ?_)
    refine awp_exit ?_
    refine awp_seq ?_
    refine awp_plain hN rfl ?_
    refine seq_run0 (stp_move (.dat _) rfl) ?_
    refine seq_run0 (stp_assign (.dat _) rfl) ?_
    refine awp_ret ?_
    cases H
    exact ⟨trivial, .inl rfl, trivial⟩
  · rintro k5 x8 h4 q6 h9 h10 H hq6
    replace H : gateref2_hashed_L1 k5 x8 h4 = some q6 := H
    unfold gateref2_hashed_L1 at H
    refine awp_seq ?_
    refine awp_plain hN rfl ?_
    refine seq_run0 (stp_lss rfl rfl) ?_
    refine awp_seq ?_
    refine awp_cond _ rfl (fun h => ?_) (fun h => (lt_f h9 h).elim)
    refine awp_skip ?_
    refine awp_seq ?_
    refine awp_block ?_
    refine awp_seq ?_
    refine awp_plain hN rfl ?_
    refine seq_run0 (stp_move (.dat _) rfl) ?_
    refine seq_run0 (stp_assign (.dat _) rfl) ?_
    refine awp_plain hN rfl ?_
    refine seq_run0 (stp_move (.dat _) rfl) ?_
    refine seq_run0 (stp_move (.dat _) rfl) ?_
    refine seq_run0 (stp_move (.dat _) rfl) ?_
    refine seq_run0 (t_byte tyU9 rfl rfl h10) ?_
    refine seq_run0 (stp_conv tyU5 tyU50 rfl) ?_
    refine seq_run0 (stp_dat (stp_xor rfl rfl) rfl) ?_
    refine seq_run0 (stp_wrap _ rfl rfl (.inr (.inr ⟨rfl, rfl⟩))) ?_
    refine seq_run0 (stp_assign (.dat _) rfl) ?_
    refine awp_plain hN rfl ?_
    refine seq_run0 (stp_add rfl rfl (by omega)) ?_
    refine seq_run0 (stp_move (.dat _) rfl) ?_
    exact ⟨_, backl H, ⟨rfl, rfl, rfl, rfl, trivial⟩, trivial⟩
theorem k_gateref2_hex16 (h1 : Int) (r : (Bs)) (H : m_gateref2_hex16 h1 = some r) : Fn Tryd.prog 26 [vval (.int .u64 h1)] (resOf [vstr r]) := by
  refine ⟨by kernel_rfl, pure_of (us := [vstr r]) Tryd.func26 rfl rfl rfl rfl fun X hN => ?_⟩
  unfold m_gateref2_hex16 at H
  refine awp_seq ?_
  refine awp_plain hN rfl ?_
  refine seq_run0 (stp_assign (.dat _) rfl) ?_
  refine awp_seq ?_
  refine awp_plain hN rfl ?_
  refine seq_run0 (stp_move (.dat _) rfl) ?_
  obtain ⟨r2, h3, H⟩ := bnd H
  refine seq_run0 (stp_call (k_strconv_FormatUint h1 16 r2 h3) ⟨.inl rfl, .inl rfl, trivial⟩) ?_
  refine seq_run0 (stp_assign (.dat _) rfl) ?_
  refine awp_seq ?_
  refine awp_plain hN rfl ?_
  refine seq_run0 (stp_move (.dat _) rfl) ?_
  refine seq_run0 (stp_len_str tyU9 rfl) ?_
  refine seq_run0 (stp_wrap _ rfl rfl (.inr (.inl ⟨rfl, rfl⟩))) ?_
  obtain ⟨r4, h5, H⟩ := bnd H
  refine seq_run0 (stp_call (k_strings_Repeat [48] (wr (16 - (r2.length : Int))) r4 h5) ⟨.inl rfl, .inl rfl, trivial⟩) ?_
  refine seq_run0 (stp_move (.dat _) rfl) ?_
  obtain ⟨h6, H⟩ := gif H
  refine seq_run0 (stp_sadd rfl rfl (Nat.le_trans h6 (by decide))) ?_
  refine seq_run0 (stp_assign (.dat _) rfl) ?_
  refine awp_ret ?_
  cases H
  exact ⟨trivial, .inl rfl, trivial⟩
theorem k_gateref2_SumOf (secret1 : Bs) (text2 : Bs) (r : (Bs)) (H : m_gateref2_SumOf secret1 text2 = some r) : Fn Tryd.prog 13 [vstr secret1, vstr text2] (resOf [vstr r]) := by
  refine ⟨by kernel_rfl, pure_of (us := [vstr r]) Tryd.func13 rfl rfl rfl rfl fun X hN => ?_⟩
  unfold m_gateref2_SumOf at H
  refine awp_seq ?_
  refine awp_plain hN rfl ?_
  refine seq_run0 (stp_assign (.dat _) rfl) ?_
  refine awp_seq ?_
  refine awp_plain hN rfl ?_
  refine seq_run0 (stp_move (.dat _) rfl) ?_
  refine seq_run0 (stp_move (.dat _) rfl) ?_
  refine seq_run0 (stp_move (.dat _) rfl) ?_
  refine seq_run0 (stp_dat (u' := vlst (List.map C_string [secret1, text2, secret1])) (stp_lit [[_], [_], [_]] tyL54 ⟨rfl, .inl ⟨_, rfl, rfl, rfl⟩, rfl, rfl, .inl ⟨_, rfl, rfl, rfl⟩, rfl, rfl, .inl ⟨_, rfl, rfl, rfl⟩, rfl, trivial⟩ rfl rfl) rfl) ?_
  obtain ⟨r3, h4, H⟩ := bnd H
  refine seq_run0 (stp_call (k_gateref2_hashed [secret1, text2, secret1] r3 h4) ⟨.inl rfl, trivial⟩) ?_
  refine seq_run0 (stp_assign (.dat _) rfl) ?_
  refine awp_seq ?_
  refine awp_seq ?_
  refine awp_plain hN rfl ?_
  refine seq_run0 (stp_move (.dat _) rfl) ?_
  refine awp_block ?_
  obtain ⟨h8, H⟩ := gif H
  refine awp_rng (fun (k6 : Nat) (s : Int) => [(5, .dat (vval (.int .u64 s))), (11, .dat (vint (k6 : Int)))]) (fun (k6 : Nat) (s : Int) => []) r3 H ⟨rfl, rfl, trivial⟩ trivial (fun _ _ => rfl) ?_ ?_
  · rintro h5 H
    replace H : gateref2_SumOf_E1 h5 = some r := H
    unfold gateref2_SumOf_E1 at H
    refine awp_seq ?_
    refine awp_plain hN rfl ?_
    refine seq_run0 (stp_lss rfl rfl) ?_
    refine awp_seq ?_
    refine awp_cond _ rfl (fun h => (lt_t h).elim) (fun h => ?_)
    refine awp_exit ?_
    refine awp_seq ?_
    refine awp_plain hN rfl ?_
    refine seq_run0 (stp_move (.dat _) rfl) ?_
    obtain ⟨r9, h10, H⟩ := bnd H
    refine seq_run0 (stp_call (k_gateref2_hex16 h5 r9 h10) ⟨.inl rfl, trivial⟩) ?_
    refine seq_run0 (stp_assign (.dat _) rfl) ?_
    refine awp_ret ?_
    cases H
    exact ⟨trivial, .inl rfl, trivial⟩
  · rintro k6 h5 q7 h11 H hq7
    replace H : gateref2_SumOf_L1 k6 h5 = some q7 := H
    unfold gateref2_SumOf_L1 at H
    refine awp_seq ?_
    refine awp_plain hN rfl ?_
    refine seq_run0 (stp_lss rfl rfl) ?_
    refine awp_seq ?_
    refine awp_cond _ rfl (fun h => ?_) (fun h => (lt_f h11 h).elim)
    refine awp_skip ?_
    refine awp_seq ?_
    refine awp_block ?_
    refine awp_plain hN rfl ?_
    refine seq_run0 (stp_move (.dat _) rfl) ?_
    refine seq_run0 (stp_move (.dat _) rfl) ?_
    refine seq_run0 (stp_dat (stp_shr rfl rfl (by decide)) rfl) ?_
    refine seq_run0 (stp_dat (stp_xor rfl rfl) rfl) ?_
    refine seq_run0 (stp_wrap _ rfl rfl (.inr (.inr ⟨rfl, rfl⟩))) ?_
    refine seq_run0 (stp_assign (.dat _) rfl) ?_
    refine awp_plain hN rfl ?_
    refine seq_run0 (stp_add rfl rfl (by omega)) ?_
    refine seq_run0 (stp_move (.dat _) rfl) ?_
    exact ⟨_, backl H, ⟨rfl, rfl, trivial⟩, trivial⟩
theorem k_gatelaw2_signed  (r : (Bool)) (H : m_gatelaw2_signed  = some r) : Fn Tryd.prog 15 [] (resOf [vbool r]) := by
  refine ⟨by kernel_rfl, pure_of (us := [vbool r]) Tryd.func15 rfl rfl rfl rfl fun X hN => ?_⟩
  unfold m_gatelaw2_signed at H
  refine awp_seq ?_
  refine awp_plain hN rfl ?_
  refine seq_run0 (stp_assign (.dat _) rfl) ?_
  refine awp_seq ?_
  refine awp_plain hN rfl ?_
  obtain ⟨r1, h2, H⟩ := bnd H
  refine seq_run0 (stp_call (k_token_Encode [97, 98] r1 h2) ⟨.inl rfl, trivial⟩) ?_
  refine seq_run0 (stp_seql rfl rfl) ?_
  refine seq_run0 (stp_assign (.dat _) rfl) ?_
  refine awp_ret ?_
  cases H
  exact ⟨trivial, .inl rfl, trivial⟩
theorem k_gatelaw2_BytesEncode (v1 : (List Int)) (r : (Bool)) (H : m_gatelaw2_BytesEncode v1 = some r) : Fn Tryd.prog 3 [vlst (List.map C_int v1)] (resOf [vbool r]) := by
  refine ⟨by kernel_rfl, pure_of (us := [vbool r]) Tryd.func3 rfl rfl rfl rfl fun X hN => ?_⟩
  unfold m_gatelaw2_BytesEncode at H
  refine awp_seq ?_
  refine awp_plain hN rfl ?_
  refine seq_run0 (stp_assign (.dat _) rfl) ?_
  refine awp_seq ?_
  refine awp_plain hN rfl ?_
  refine seq_run0 (stp_move (.dat _) rfl) ?_
  refine seq_run0 (stp_dat (u' := vagg (C_gatemake_Stream (S_gatemake_Stream.mk v1 0))) (stp_build [(0, [vlst (List.map C_int v1)])] tyZ25 tyP25 rfl ⟨rfl, .inl ⟨_, rfl, rfl, rfl⟩, rfl, trivial⟩) rfl) ?_
  refine seq_run2 (stp_boxA 1 rfl) rfl ?_
  refine seq_run0 (stp_assign (.ptr _ _) rfl) ?_
  refine awp_seq ?_
  refine awp_plain hN rfl ?_
  refine seq_run0 (stp_assign (.dat _) rfl) ?_
  refine awp_seq ?_
  refine awp_seq ?_
  refine awp_plain hN rfl ?_
  refine seq_run0 (stp_move (.ptr _ _) rfl) ?_
  obtain ⟨r2, h3, H⟩ := bnd H
  refine seq_run2 (stp_imp (k_gatemake_Stream_Range (S_gatemake_Stream.mk v1 0) 0 12 r2 h3) rfl ⟨.inl rfl, .inl rfl, trivial⟩ rfl) rfl ?_
  refine seq_run0 (stp_move (.dat _) rfl) ?_
  refine awp_block ?_
  refine awp_nilrow 4 2 5 1 rfl rfl rfl ?_
  obtain ⟨h9, H⟩ := gif H
  refine awp_rng (fun (k7 : Nat) (s : (List Int) × Int × (List Int)) => [(3, .ptr 1 0), (4, .row 2 s.2.2.length), (19, .dat (vint r2.1)), (20, .dat (vint (k7 : Int)))]) (fun (k7 : Nat) (s : (List Int) × Int × (List Int)) => [(1, .box none 25 [.dat (vlst (List.map C_int s.1)), .dat (vint s.2.1)]), (2, .row 5 1 (List.map C_uint8 s.2.2))]) (r2.2.L, r2.2.at_, []) H ⟨rfl, congrArg (Slot.row 2) (by simp), rfl, rfl, trivial⟩ ⟨rfl, rfl, trivial⟩ (fun _ _ => rfl) ?_ ?_
  · rintro ⟨c4, c5, l6⟩ H
    replace H : gatelaw2_BytesEncode_E1 c4 c5 l6 = some r := H
    unfold gatelaw2_BytesEncode_E1 at H
    refine awp_seq ?_
    refine awp_plain hN rfl ?_
    refine seq_run0 (stp_lss rfl rfl) ?_
    refine awp_seq ?_
    refine awp_cond _ rfl (fun h => (lt_tI h).elim) (fun h => ?_)
    refine awp_exit ?_
    refine awp_seq ?_
    refine t_freeze 4 2 rfl rfl rfl ?_
    refine awp_plain hN rfl ?_
    refine seq_run0 (stp_move (.dat _) rfl) ?_
    refine seq_run0 (stp_convB (C := C_uint8) tyU26 tyU5 tyU9 (fun _ => rfl) rfl) ?_
    obtain ⟨r10, h11, H⟩ := bnd H
    refine seq_run0 (stp_call (k_gateref2_Encoded (strN l6) r10 h11) ⟨.inl rfl, trivial⟩) ?_
    refine seq_run0 (stp_move (.ptr _ _) rfl) ?_
    obtain ⟨r12, h13, H⟩ := bnd H
    refine seq_run2 (stp_imp (k_gatemake_Stream_Secret (S_gatemake_Stream.mk c4 c5) r12 h13) rfl trivial rfl) rfl ?_
    refine seq_run0 (stp_assign (.dat _) rfl) ?_
    refine seq_run0 (stp_assign (.dat _) rfl) ?_
    refine awp_joinE (ι := Bs) (fun i => [(4, .dat (vlst (List.map C_uint8 l6))), (5, .dat (vstr i)), (6, .dat (vstr r12.1))]) (fun i => []) (fun i => gatelaw2_BytesEncode_J2 l6 r12 i = some r) (fun i => rfl) ?_ ?_
    · skip
      refine awp_seq ?_
      refine awp_plain hN rfl ?_
      refine seq_run0 (stp_move (.ptr _ _) rfl) ?_
      obtain ⟨r14, h15, H⟩ := bnd H
      refine seq_run2 (stp_imp (k_gatemake_Stream_Flip r12.2 2 r14 h15) rfl ⟨.inl rfl, trivial⟩ rfl) rfl ?_
      refine awp_cond _ rfl (fun h16 => ?_) (fun h16 => ?_)
      · replace H := ift h16 H
        refine awp_plain hN rfl ?_
        refine seq_run0 (stp_move (.ptr _ _) rfl) ?_
        refine seq_run0 (stp_move (.dat _) rfl) ?_
        obtain ⟨r17, h18, H⟩ := bnd H
        refine seq_run2 (stp_imp (k_gatemake_Stream_Changed r14.2 r10 [65, 90, 97, 122, 48, 57, 45, 95, 61, 82] r17 h18) rfl ⟨.inl rfl, .inl rfl, trivial⟩ rfl) rfl ?_
        refine seq_run0 (stp_assign (.dat _) rfl) ?_
        exact ⟨r17.1, H, ⟨rfl, rfl, rfl, trivial⟩, trivial⟩
      · replace H := iff_ h16 H
        refine awp_skip ?_
        exact ⟨r10, H, ⟨rfl, rfl, rfl, trivial⟩, trivial⟩
    · rintro v19 H
      replace H : gatelaw2_BytesEncode_J2 l6 r12 v19 = some r := H
      unfold gatelaw2_BytesEncode_J2 at H
      refine awp_seq ?_
      refine awp_plain hN rfl ?_
      refine seq_run0 (stp_move (.dat _) rfl) ?_
      obtain ⟨r20, h21, H⟩ := bnd H
      refine seq_run0 (stp_call (k_token_Decode v19 r20 h21) ⟨.inl rfl, trivial⟩) ?_
      refine seq_run0 (stp_move (.dat _) rfl) ?_
      refine seq_run0 (stp_ext rfl rfl) ?_
      refine seq_run0 (stp_ext rfl rfl) ?_
      refine seq_run0 (stp_assign (.dat _) rfl) ?_
      refine seq_run0 (stp_assign (.dat _) rfl) ?_
      refine awp_seq ?_
      refine awp_plain hN rfl ?_
      refine seq_run0 (stp_move (.dat _) rfl) ?_
      obtain ⟨r22, h23, H⟩ := bnd H
      refine seq_run0 (stp_call (k_gateref2_Decoded v19 r22 h23) ⟨.inl rfl, trivial⟩) ?_
      refine seq_run0 (stp_move (.dat _) rfl) ?_
      refine seq_run0 (stp_ext rfl rfl) ?_
      refine seq_run0 (stp_ext rfl rfl) ?_
      refine seq_run0 (stp_assign (.dat _) rfl) ?_
      refine seq_run0 (stp_assign (.dat _) rfl) ?_
      refine awp_seq ?_
      refine awp_plain hN rfl ?_
      refine seq_run0 (stp_move (.dat _) rfl) ?_
      refine seq_run0 (stp_move (.dat _) rfl) ?_
      refine seq_run0 (stp_convB (C := C_uint8) tyU26 tyU5 tyU9 (fun _ => rfl) rfl) ?_
      obtain ⟨r24, h25, H⟩ := bnd H
      refine seq_run0 (stp_call (k_token_Sum r12.1 (strN l6) r24 h25) ⟨.inl rfl, .inl rfl, trivial⟩) ?_
      refine seq_run0 (stp_move (.dat _) rfl) ?_
      refine seq_run0 (stp_ext rfl rfl) ?_
      refine seq_run0 (stp_ext rfl rfl) ?_
      refine seq_run0 (stp_assign (.dat _) rfl) ?_
      refine seq_run0 (stp_assign (.dat _) rfl) ?_
      refine awp_seq ?_
      refine awp_plain hN rfl ?_
      refine seq_run0 (stp_move (.dat _) rfl) ?_
      obtain ⟨r26, h27, H⟩ := bnd H
      refine seq_run0 (stp_call (k_gateref2_SecretFault r12.1 r26 h27) ⟨.inl rfl, trivial⟩) ?_
      refine seq_run0 (stp_assign (.dat _) rfl) ?_
      refine seq_run0 (stp_assign (.dat _) rfl) ?_
      refine awp_joinE (ι := Bs) (fun i => [(4, .dat (vlst (List.map C_uint8 l6))), (7, .dat (vstr r20.1)), (8, .dat (vint r20.2)), (9, .dat (vstr r22.1)), (10, .dat (vint r22.2)), (11, .dat (vstr r24.1)), (12, .dat (vint r24.2)), (13, .dat (vint r26)), (14, .dat (vstr i))]) (fun i => []) (fun i => gatelaw2_BytesEncode_J3 l6 r20 r22 r24 r26 i = some r) (fun i => rfl) ?_ ?_
      · skip
        refine awp_seq ?_
        refine awp_plain hN rfl ?_
        refine seq_run0 (stp_move (.dat _) rfl) ?_
        refine seq_run0 (stp_eql rfl rfl) ?_
        refine awp_cond _ rfl (fun h28 => ?_) (fun h28 => ?_)
        · replace H := ift h28 H
          refine awp_plain hN rfl ?_
          refine seq_run0 (stp_move (.dat _) rfl) ?_
          refine seq_run0 (stp_move (.dat _) rfl) ?_
          refine seq_run0 (stp_convB (C := C_uint8) tyU26 tyU5 tyU9 (fun _ => rfl) rfl) ?_
          obtain ⟨r29, h30, H⟩ := bnd H
          refine seq_run0 (stp_call (k_gateref2_SumOf r12.1 (strN l6) r29 h30) ⟨.inl rfl, .inl rfl, trivial⟩) ?_
          refine seq_run0 (stp_assign (.dat _) rfl) ?_
          exact ⟨r29, H, ⟨rfl, rfl, rfl, rfl, rfl, rfl, rfl, rfl, rfl, trivial⟩, trivial⟩
        · replace H := iff_ h28 H
          refine awp_skip ?_
          exact ⟨[], H, ⟨rfl, rfl, rfl, rfl, rfl, rfl, rfl, rfl, rfl, trivial⟩, trivial⟩
      · rintro v31 H
        replace H : gatelaw2_BytesEncode_J3 l6 r20 r22 r24 r26 v31 = some r := H
        unfold gatelaw2_BytesEncode_J3 at H
        refine awp_joinE (ι := Bool) (fun i => [(2, .dat (vbool i))]) (fun i => []) (fun i => gatelaw2_BytesEncode_J4 i = some r) (fun i => rfl) ?_ ?_
        · skip
          refine awp_draw mixed hN rfl rfl ?_
          refine seq_run0 (stp_move (.dat _) rfl) ?_
          refine seq_run0 (stp_convB (C := C_uint8) tyU26 tyU5 tyU9 (fun _ => rfl) rfl) ?_
          obtain ⟨r32, h33, H⟩ := bnd H
          refine seq_run0 (stp_call (k_token_Encode (strN l6) r32 h33) ⟨.inl rfl, trivial⟩) ?_
          refine seq_run0 (stp_move (.dat _) rfl) ?_
          refine seq_run0 (stp_convB (C := C_uint8) tyU26 tyU5 tyU9 (fun _ => rfl) rfl) ?_
          obtain ⟨r34, h35, H⟩ := bnd H
          refine seq_run0 (stp_call (k_gateref2_Encoded (strN l6) r34 h35) ⟨.inl rfl, trivial⟩) ?_
          refine seq_run0 (stp_seql rfl rfl) ?_
          refine seq_run0 (stp_move (.dat _) rfl) ?_
          refine seq_split (j := 7) rfl rfl (fun h36 => ?_) (fun h36 => ?_) rfl
          · have h37 := un1 h36
            replace H := ift h37 H
            refine seq_g0 rfl rfl h36 (stp_move (.dat _) rfl) ?_
            refine seq_g0 rfl rfl h36 (stp_move (.dat _) rfl) ?_
            refine seq_g0 rfl rfl h36 (stp_seql rfl rfl) ?_
            refine seq_run0 (stp_pick_t rfl (bTT h37) rfl) ?_
            refine seq_run0 (stp_move (.dat _) rfl) ?_
            refine seq_split (j := 12) rfl rfl (fun h38 => ?_) (fun h38 => ?_) rfl
            · have h39 := un1 h38
              replace H := ift h39 H
              refine seq_g0 rfl rfl h38 (stp_move (.dat _) rfl) ?_
              refine seq_g0 rfl rfl h38 (stp_move (.dat _) rfl) ?_
              refine seq_g0 rfl rfl h38 (stp_eql rfl rfl) ?_
              refine seq_run0 (stp_pick_t rfl (bTT h39) rfl) ?_
              refine seq_run0 (stp_move (.dat _) rfl) ?_
              refine seq_split (j := 17) rfl rfl (fun h40 => ?_) (fun h40 => ?_) rfl
              · have h41 := un1 h40
                replace H := ift h41 H
                refine seq_g0 rfl rfl h40 (stp_move (.dat _) rfl) ?_
                refine seq_g0 rfl rfl h40 (stp_move (.dat _) rfl) ?_
                refine seq_g0 rfl rfl h40 (stp_seql rfl rfl) ?_
                refine seq_run0 (stp_pick_t rfl (bTT h41) rfl) ?_
                refine seq_run0 (stp_move (.dat _) rfl) ?_
                refine seq_split (j := 22) rfl rfl (fun h42 => ?_) (fun h42 => ?_) rfl
                · have h43 := un1 h42
                  replace H := ift h43 H
                  refine seq_g0 rfl rfl h42 (stp_move (.dat _) rfl) ?_
                  refine seq_g0 rfl rfl h42 (stp_move (.dat _) rfl) ?_
                  refine seq_g0 rfl rfl h42 (stp_eql rfl rfl) ?_
                  refine seq_run0 (stp_pick_t rfl (bTT h43) rfl) ?_
                  refine seq_run0 (stp_move (.dat _) rfl) ?_
                  refine seq_split (j := 27) rfl rfl (fun h44 => ?_) (fun h44 => ?_) rfl
                  · have h45 := un1 h44
                    replace H := ift h45 H
                    obtain ⟨r46, h47, H⟩ := bnd H
                    refine seq_g0 rfl rfl h44 (stp_call (k_gatelaw2_signed  r46 h47) trivial) ?_
                    refine seq_run0 (stp_pick_t rfl (bTT h45) rfl) ?_
                    refine seq_run0 (stp_assign (.dat _) rfl) ?_
                    refine ⟨rfl, ?_⟩
                    exact ⟨r46, H, ⟨rfl, trivial⟩, trivial⟩
                  · have h48 := un2 h44
                    replace H := iff_ h48 H
                    refine seq_skip rfl rfl h44 ?_
                    refine seq_run0 (stp_pick_f rfl (bFF h48) rfl) ?_
                    refine seq_run0 (stp_assign (.dat _) rfl) ?_
                    refine ⟨rfl, ?_⟩
                    exact ⟨false, H, ⟨rfl, trivial⟩, trivial⟩
                · have h49 := un2 h42
                  replace H := iff_ h49 H
                  refine seq_skip rfl rfl h42 ?_
                  refine seq_skip rfl rfl h42 ?_
                  refine seq_skip rfl rfl h42 ?_
                  refine seq_run0 (stp_pick_f rfl (bFF h49) rfl) ?_
                  refine seq_run0 (stp_move (.dat _) rfl) ?_
                  refine seq_skip rfl rfl rfl ?_
                  refine seq_run0 (stp_pick_f rfl rfl rfl) ?_
                  refine seq_run0 (stp_assign (.dat _) rfl) ?_
                  refine ⟨rfl, ?_⟩
                  exact ⟨false, H, ⟨rfl, trivial⟩, trivial⟩
              · have h50 := un2 h40
                replace H := iff_ h50 H
                refine seq_skip rfl rfl h40 ?_
                refine seq_skip rfl rfl h40 ?_
                refine seq_skip rfl rfl h40 ?_
                refine seq_run0 (stp_pick_f rfl (bFF h50) rfl) ?_
                refine seq_run0 (stp_move (.dat _) rfl) ?_
                refine seq_skip rfl rfl rfl ?_
                refine seq_skip rfl rfl rfl ?_
                refine seq_skip rfl rfl rfl ?_
                refine seq_run0 (stp_pick_f rfl rfl rfl) ?_
                refine seq_run0 (stp_move (.dat _) rfl) ?_
                refine seq_skip rfl rfl rfl ?_
                refine seq_run0 (stp_pick_f rfl rfl rfl) ?_
                refine seq_run0 (stp_assign (.dat _) rfl) ?_
                refine ⟨rfl, ?_⟩
                exact ⟨false, H, ⟨rfl, trivial⟩, trivial⟩
            · have h51 := un2 h38
              replace H := iff_ h51 H
              refine seq_skip rfl rfl h38 ?_
              refine seq_skip rfl rfl h38 ?_
              refine seq_skip rfl rfl h38 ?_
              refine seq_run0 (stp_pick_f rfl (bFF h51) rfl) ?_
              refine seq_run0 (stp_move (.dat _) rfl) ?_
              refine seq_skip rfl rfl rfl ?_
              refine seq_skip rfl rfl rfl ?_
              refine seq_skip rfl rfl rfl ?_
              refine seq_run0 (stp_pick_f rfl rfl rfl) ?_
              refine seq_run0 (stp_move (.dat _) rfl) ?_
              refine seq_skip rfl rfl rfl ?_
              refine seq_skip rfl rfl rfl ?_
              refine seq_skip rfl rfl rfl ?_
              refine seq_run0 (stp_pick_f rfl rfl rfl) ?_
              refine seq_run0 (stp_move (.dat _) rfl) ?_
              refine seq_skip rfl rfl rfl ?_
              refine seq_run0 (stp_pick_f rfl rfl rfl) ?_
              refine seq_run0 (stp_assign (.dat _) rfl) ?_
              refine ⟨rfl, ?_⟩
              exact ⟨false, H, ⟨rfl, trivial⟩, trivial⟩
          · have h52 := un2 h36
            replace H := iff_ h52 H
            refine seq_skip rfl rfl h36 ?_
            refine seq_skip rfl rfl h36 ?_
            refine seq_skip rfl rfl h36 ?_
            refine seq_run0 (stp_pick_f rfl (bFF h52) rfl) ?_
            refine seq_run0 (stp_move (.dat _) rfl) ?_
            refine seq_skip rfl rfl rfl ?_
            refine seq_skip rfl rfl rfl ?_
            refine seq_skip rfl rfl rfl ?_
            refine seq_run0 (stp_pick_f rfl rfl rfl) ?_
            refine seq_run0 (stp_move (.dat _) rfl) ?_
            refine seq_skip rfl rfl rfl ?_
            refine seq_skip rfl rfl rfl ?_
            refine seq_skip rfl rfl rfl ?_
            refine seq_run0 (stp_pick_f rfl rfl rfl) ?_
            refine seq_run0 (stp_move (.dat _) rfl) ?_
            refine seq_skip rfl rfl rfl ?_
            refine seq_skip rfl rfl rfl ?_
            refine seq_skip rfl rfl rfl ?_
            refine seq_run0 (stp_pick_f rfl rfl rfl) ?_
            refine seq_run0 (stp_move (.dat _) rfl) ?_
            refine seq_skip rfl rfl rfl ?_
            refine seq_run0 (stp_pick_f rfl rfl rfl) ?_
            refine seq_run0 (stp_assign (.dat _) rfl) ?_
            refine ⟨rfl, ?_⟩
            exact ⟨false, H, ⟨rfl, trivial⟩, trivial⟩
        · rintro v53 H
          replace H : gatelaw2_BytesEncode_J4 v53 = some r := H
          unfold gatelaw2_BytesEncode_J4 at H
          refine awp_ret ?_
          cases H
          exact ⟨trivial, .inl rfl, trivial⟩
  · rintro k7 ⟨c4, c5, l6⟩ q8 h54 H hq8
    replace H : gatelaw2_BytesEncode_L1 k7 c4 c5 l6 = some q8 := H
    unfold gatelaw2_BytesEncode_L1 at H
    refine awp_seq ?_
    refine awp_plain hN rfl ?_
    refine seq_run0 (stp_lss rfl rfl) ?_
    refine awp_seq ?_
    refine awp_cond _ rfl (fun h => ?_) (fun h => (lt_fI h54 h).elim)
    refine awp_skip ?_
    refine awp_seq ?_
    refine awp_block ?_
    refine awp_plain hN rfl ?_
    refine seq_run0 (stp_move (.row _ _) rfl) ?_
    refine seq_run0 (stp_move (.ptr _ _) rfl) ?_
    obtain ⟨r55, h56, H⟩ := bnd H
    refine seq_run2 (stp_imp (k_gatemake_Stream_Range (S_gatemake_Stream.mk c4 c5) 0 255 r55 h56) rfl ⟨.inl rfl, .inl rfl, trivial⟩ rfl) rfl ?_
    refine seq_run0 (stp_conv tyU3 tyU5 rfl) ?_
    refine seq_run0 (stp_dat (u' := vlst (List.map C_uint8 [IntKind.wrap .u8 r55.1])) (stp_lit [[_]] tyL26 ⟨rfl, .inl ⟨_, rfl, rfl, rfl⟩, rfl, trivial⟩ rfl rfl) rfl) ?_
    obtain ⟨h57, H⟩ := gif H
    refine seq_run2 (t_app tyL26 (fun _ => rfl) rfl rfl rfl ⟨by simp, by simpa using h57⟩ rfl) rfl ?_
    refine seq_run0 (stp_assign (.row _ _) rfl) ?_
    refine awp_plain hN rfl ?_
    refine seq_run0 (stp_add rfl rfl (by omega)) ?_
    refine seq_run0 (stp_move (.dat _) rfl) ?_
    exact ⟨_, backl H, ⟨rfl, rfl, rfl, rfl, trivial⟩, ⟨rfl, rfl, trivial⟩⟩
end Go.Proofs.YtiilgjigelbkcaaDoor
