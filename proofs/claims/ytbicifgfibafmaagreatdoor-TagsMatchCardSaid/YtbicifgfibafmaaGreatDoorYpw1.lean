/- Walks along the models. Printed by a program. -/
import Derived.Test.YtbicifgfibafmaaGreatDoorYpc
namespace Go.Proofs.YtbicifgfibafmaaGreatDoor
open Go.RowKit
set_option linter.unusedVariables false
set_option maxRecDepth 20000
set_option maxHeartbeats 2000000
theorem k_gatemake_Below (x1 : Int) (n2 : Int) (r : (Int)) (H : m_gatemake_Below x1 n2 = some r) : Fn Tryz.prog 48 [vint x1, vint n2] (resOf [vint r]) := by
  refine ⟨by kernel_rfl, pure_of (us := [vint r]) Tryz.func48 rfl rfl rfl rfl fun X hN => ?_⟩
  unfold m_gatemake_Below at H
  refine awp_seq ?_
  refine awp_plain hN rfl ?_
  refine seq_run0 (stp_assign (.dat _) rfl) ?_
  refine awp_seq ?_
  refine awp_seq ?_
  refine awp_plain hN rfl ?_
  refine seq_run0 (stp_move (.dat _) rfl) ?_
  refine seq_run0 (stp_lss rfl rfl) ?_
  refine awp_cond _ rfl (fun h3 => ?_) (fun h3 => ?_)
  · replace H := ift h3 H
    refine awp_seq ?_
    refine awp_plain hN rfl ?_
    refine seq_run0 (stp_assign (.dat _) rfl) ?_
    refine awp_ret ?_
    cases H
    exact ⟨trivial, .inl rfl, trivial⟩
  · replace H := iff_ h3 H
    refine awp_skip ?_
    refine awp_seq ?_
    refine awp_plain hN rfl ?_
    refine seq_run0 (stp_move (.dat _) rfl) ?_
    refine seq_run0 (stp_move (.dat _) rfl) ?_
    obtain ⟨h4, H⟩ := gif H
    refine seq_run0 (stp_remT rfl rfl h4) ?_
    refine seq_run0 (stp_assign (.dat _) rfl) ?_
    refine awp_joinE (ι := Int) (fun i => [(0, .dat (vint i))]) (fun i => []) (fun i => gatemake_Below_J1 i = some r) (fun i => rfl) ?_ ?_
    · skip
      refine awp_seq ?_
      refine awp_plain hN rfl ?_
      refine seq_run0 (stp_move (.dat _) rfl) ?_
      refine seq_run0 (stp_lss rfl rfl) ?_
      refine awp_cond _ rfl (fun h5 => ?_) (fun h5 => ?_)
      · replace H := ift h5 H
        refine awp_plain hN rfl ?_
        refine seq_run0 (stp_move (.dat _) rfl) ?_
        refine seq_run0 (stp_move (.dat _) rfl) ?_
        refine seq_run0 (stp_wrap _ rfl rfl (.inl ⟨rfl, rfl⟩)) ?_
        refine seq_run0 (stp_assign (.dat _) rfl) ?_
        exact ⟨wr ((Int.tmod x1 n2) + n2), H, ⟨rfl, trivial⟩, trivial⟩
      · replace H := iff_ h5 H
        refine awp_skip ?_
        exact ⟨(Int.tmod x1 n2), H, ⟨rfl, trivial⟩, trivial⟩
    · rintro x6 H
      replace H : gatemake_Below_J1 x6 = some r := H
      unfold gatemake_Below_J1 at H
      refine awp_seq ?_
      refine awp_plain hN rfl ?_
      refine seq_run0 (stp_move (.dat _) rfl) ?_
      refine seq_run0 (stp_assign (.dat _) rfl) ?_
      refine awp_ret ?_
      cases H
      exact ⟨trivial, .inl rfl, trivial⟩
theorem k_gatemake_Stream_Next (s1 : S_gatemake_Stream) (n2 : Int) (r : (Int × S_gatemake_Stream)) (H : m_gatemake_Stream_Next s1 n2 = some r) : Imp Tryz.prog 19 25 (C_gatemake_Stream s1) [vint n2] (resOf [vint r.1]) (C_gatemake_Stream r.2) := by
  refine imp_of (us := [vint r.1]) (cs' := (C_gatemake_Stream r.2)) (by kernel_rfl) Tryz.func19 rfl rfl rfl rfl fun X bl hN => ?_
  unfold m_gatemake_Stream_Next at H
  refine awp_seq ?_
  refine awp_plain hN rfl ?_
  refine seq_run0 (stp_assign (.dat _) rfl) ?_
  refine awp_seq ?_
  refine awp_plain hN rfl ?_
  refine seq_run0 (stp_move (.ptr _ _) rfl) ?_
  refine seq_run0 (stp_nilP rfl) ?_
  refine seq_run0 (stp_fldP tyF25_1 rfl) ?_
  refine seq_run1 (stp_load1 tyS3 rfl rfl) rfl ?_
  refine seq_run0 (stp_wrap _ rfl rfl (.inl ⟨rfl, rfl⟩)) ?_
  refine seq_run0 (stp_nilP rfl) ?_
  refine seq_run0 (stp_fldP tyF25_1 rfl) ?_
  refine seq_run2 (stp_store1 tyS3 rfl rfl rfl rfl) rfl ?_
  refine awp_seq ?_
  refine awp_seq ?_
  refine awp_plain hN rfl ?_
  refine seq_run0 (stp_move (.ptr _ _) rfl) ?_
  refine seq_run0 (stp_nilP rfl) ?_
  refine seq_run0 (stp_fldP tyF25_0 rfl) ?_
  refine seq_run1 (stp_load1 tyS22 rfl rfl) rfl ?_
  refine seq_run0 (t_len tyU22 rfl) ?_
  refine seq_run0 (stp_eql rfl rfl) ?_
  refine awp_cond _ rfl (fun h3 => ?_) (fun h3 => ?_)
  · replace H := ift h3 H
    refine awp_seq ?_
    refine awp_plain hN rfl ?_
    refine seq_run0 (stp_move (.ptr _ _) rfl) ?_
    refine seq_run0 (stp_nilP rfl) ?_
    refine seq_run0 (stp_fldP tyF25_1 rfl) ?_
    refine seq_run1 (stp_load1 tyS3 rfl rfl) rfl ?_
    refine seq_run0 (stp_wrap _ rfl rfl (.inr (.inr ⟨rfl, rfl⟩))) ?_
    refine seq_run0 (stp_move (.dat _) rfl) ?_
    obtain ⟨r4, h5, H⟩ := bnd H
    refine seq_run0 (stp_call (k_gatemake_Below (wr ((wr (s1.at_ + 1)) * 7919)) n2 r4 h5) ⟨.inl rfl, .inl rfl, trivial⟩) ?_
    refine seq_run0 (stp_assign (.dat _) rfl) ?_
    refine awp_ret ?_
    cases H
    exact ⟨trivial, ⟨.inl rfl, trivial⟩, rfl⟩
  · replace H := iff_ h3 H
    refine awp_skip ?_
    refine awp_seq ?_
    refine awp_draw mixed hN rfl rfl ?_
    refine seq_run0 (stp_move (.ptr _ _) rfl) ?_
    refine seq_run0 (stp_nilP rfl) ?_
    refine seq_run0 (stp_fldP tyF25_1 rfl) ?_
    refine seq_run1 (stp_load1 tyS3 rfl rfl) rfl ?_
    refine seq_run0 (stp_wrap _ rfl rfl (.inr (.inl ⟨rfl, rfl⟩))) ?_
    refine seq_run0 (stp_move (.ptr _ _) rfl) ?_
    refine seq_run0 (stp_nilP rfl) ?_
    refine seq_run0 (stp_fldP tyF25_0 rfl) ?_
    refine seq_run1 (stp_load1 tyS22 rfl rfl) rfl ?_
    refine seq_run0 (t_len tyU22 rfl) ?_
    obtain ⟨h6, H⟩ := gif H
    refine seq_run0 (stp_remT rfl rfl h6) ?_
    refine seq_run0 (stp_assign (.dat _) rfl) ?_
    refine ⟨rfl, ?_⟩
    refine awp_seq ?_
    refine awp_draw mixed hN rfl rfl ?_
    refine seq_run0 (stp_move (.ptr _ _) rfl) ?_
    refine seq_run0 (stp_nilP rfl) ?_
    refine seq_run0 (stp_fldP tyF25_1 rfl) ?_
    refine seq_run1 (stp_load1 tyS3 rfl rfl) rfl ?_
    refine seq_run0 (stp_wrap _ rfl rfl (.inr (.inl ⟨rfl, rfl⟩))) ?_
    refine seq_run0 (stp_move (.ptr _ _) rfl) ?_
    refine seq_run0 (stp_nilP rfl) ?_
    refine seq_run0 (stp_fldP tyF25_0 rfl) ?_
    refine seq_run1 (stp_load1 tyS22 rfl rfl) rfl ?_
    refine seq_run0 (t_len tyU22 rfl) ?_
    obtain ⟨h7, H⟩ := gif H
    refine seq_run0 (stp_quo rfl rfl h7.1 h7.2) ?_
    refine seq_run0 (stp_assign (.dat _) rfl) ?_
    refine ⟨rfl, ?_⟩
    refine awp_seq ?_
    refine awp_plain hN rfl ?_
    refine seq_run0 (stp_move (.ptr _ _) rfl) ?_
    refine seq_run0 (stp_nilP rfl) ?_
    refine seq_run0 (stp_fldP tyF25_0 rfl) ?_
    refine seq_run1 (stp_load1 tyS22 rfl rfl) rfl ?_
    refine seq_run0 (stp_move (.dat _) rfl) ?_
    obtain ⟨x8, h9, H⟩ := bnd H
    refine seq_run0 (t_idxI tyE22 (fun _ => rfl) rfl rfl h9) ?_
    refine seq_run0 (stp_loadE1 tyS3 rfl (map_at (at_some h9).2) rfl) ?_
    obtain ⟨r10, h11, H⟩ := bnd H
    refine seq_run0 (stp_call (k_gatemake_Below x8 1073741824 r10 h11) ⟨.inl rfl, .inl rfl, trivial⟩) ?_
    refine seq_run0 (stp_move (.dat _) rfl) ?_
    refine seq_run0 (stp_move (.dat _) rfl) ?_
    refine seq_run0 (stp_wrap _ rfl rfl (.inl ⟨rfl, rfl⟩)) ?_
    refine seq_run0 (stp_wrap _ rfl rfl (.inr (.inr ⟨rfl, rfl⟩))) ?_
    refine seq_run0 (stp_wrap _ rfl rfl (.inl ⟨rfl, rfl⟩)) ?_
    refine seq_run0 (stp_move (.dat _) rfl) ?_
    obtain ⟨r12, h13, H⟩ := bnd H
    refine seq_run0 (stp_call (k_gatemake_Below (wr (r10 + (wr (((wr ((wr (s1.at_ + 1)) - 1)) / (s1.L.length : Int)) * (wr (7919 + (Int.tmod (wr ((wr (s1.at_ + 1)) - 1)) (s1.L.length : Int)))))))) n2 r12 h13) ⟨.inl rfl, .inl rfl, trivial⟩) ?_
    refine seq_run0 (stp_assign (.dat _) rfl) ?_
    refine awp_ret ?_
    cases H
    exact ⟨trivial, ⟨.inl rfl, trivial⟩, rfl⟩
theorem k_gatemake_Stream_Range (s1 : S_gatemake_Stream) (low2 : Int) (high3 : Int) (r : (Int × S_gatemake_Stream)) (H : m_gatemake_Stream_Range s1 low2 high3 = some r) : Imp Tryz.prog 17 25 (C_gatemake_Stream s1) [vint low2, vint high3] (resOf [vint r.1]) (C_gatemake_Stream r.2) := by
  refine imp_of (us := [vint r.1]) (cs' := (C_gatemake_Stream r.2)) (by kernel_rfl) Tryz.func17 rfl rfl rfl rfl fun X bl hN => ?_
  unfold m_gatemake_Stream_Range at H
  refine awp_seq ?_
  refine awp_plain hN rfl ?_
  refine seq_run0 (stp_assign (.dat _) rfl) ?_
  refine awp_seq ?_
  refine awp_seq ?_
  refine awp_plain hN rfl ?_
  refine seq_run0 (stp_move (.dat _) rfl) ?_
  refine seq_run0 (stp_move (.dat _) rfl) ?_
  refine seq_run0 (stp_lss rfl rfl) ?_
  refine awp_cond _ rfl (fun h4 => ?_) (fun h4 => ?_)
  · replace H := ift h4 H
    refine awp_seq ?_
    refine awp_plain hN rfl ?_
    refine seq_run0 (stp_move (.dat _) rfl) ?_
    refine seq_run0 (stp_assign (.dat _) rfl) ?_
    refine awp_ret ?_
    cases H
    exact ⟨trivial, ⟨.inl rfl, trivial⟩, rfl⟩
  · replace H := iff_ h4 H
    refine awp_skip ?_
    refine awp_seq ?_
    refine awp_plain hN rfl ?_
    refine seq_run0 (stp_move (.dat _) rfl) ?_
    refine seq_run0 (stp_move (.ptr _ _) rfl) ?_
    refine seq_run0 (stp_move (.dat _) rfl) ?_
    refine seq_run0 (stp_move (.dat _) rfl) ?_
    refine seq_run0 (stp_wrap _ rfl rfl (.inr (.inl ⟨rfl, rfl⟩))) ?_
    refine seq_run0 (stp_wrap _ rfl rfl (.inl ⟨rfl, rfl⟩)) ?_
    obtain ⟨r5, h6, H⟩ := bnd H
    refine seq_run2 (stp_imp (k_gatemake_Stream_Next s1 (wr ((wr (high3 - low2)) + 1)) r5 h6) rfl ⟨.inl rfl, trivial⟩ rfl) rfl ?_
    refine seq_run0 (stp_wrap _ rfl rfl (.inl ⟨rfl, rfl⟩)) ?_
    refine seq_run0 (stp_assign (.dat _) rfl) ?_
    refine awp_ret ?_
    cases H
    exact ⟨trivial, ⟨.inl rfl, trivial⟩, rfl⟩
theorem k_gatemake_Stream_Some (s1 : S_gatemake_Stream) (l2 : (List Bs)) (r : (Bs × S_gatemake_Stream)) (H : m_gatemake_Stream_Some s1 l2 = some r) : Imp Tryz.prog 5 25 (C_gatemake_Stream s1) [vlst (List.map C_string l2)] (resOf [vstr r.1]) (C_gatemake_Stream r.2) := by
  refine imp_of (us := [vstr r.1]) (cs' := (C_gatemake_Stream r.2)) (by kernel_rfl) Tryz.func5 rfl rfl rfl rfl fun X bl hN => ?_
  unfold m_gatemake_Stream_Some at H
  refine awp_seq ?_
  refine awp_plain hN rfl ?_
  refine seq_run0 (stp_assign (.dat _) rfl) ?_
  refine awp_seq ?_
  refine awp_plain hN rfl ?_
  refine seq_run0 (stp_move (.dat _) rfl) ?_
  refine seq_run0 (stp_move (.ptr _ _) rfl) ?_
  refine seq_run0 (stp_move (.dat _) rfl) ?_
  refine seq_run0 (t_len tyU48 rfl) ?_
  obtain ⟨r3, h4, H⟩ := bnd H
  refine seq_run2 (stp_imp (k_gatemake_Stream_Next s1 (l2.length : Int) r3 h4) rfl ⟨.inl rfl, trivial⟩ rfl) rfl ?_
  obtain ⟨x5, h6, H⟩ := bnd H
  refine seq_run0 (t_idxI tyE48 (fun _ => rfl) rfl rfl h6) ?_
  refine seq_run0 (stp_loadE1 tyS9 rfl (map_at (at_some h6).2) rfl) ?_
  refine seq_run0 (stp_assign (.dat _) rfl) ?_
  refine awp_ret ?_
  cases H
  exact ⟨trivial, ⟨.inl rfl, trivial⟩, rfl⟩
theorem k_strings_Join (l : List Bs) (sep r : Bs) (H : m_strings_Join l sep = some r) : Fn Tryz.prog 47 [vlst (List.map C_string l), vstr sep] (resOf [vstr r]) := by
  obtain ⟨h1, h2, rfl⟩ := join_some H
  refine fn_of_callsG (by kernel_rfl) fun M w vs hM h => ?_
  obtain ⟨hl, hv⟩ := h
  obtain ⟨a, ha, hap⟩ := hv 0 _ rfl
  obtain ⟨s, hs, hsp⟩ := hv 1 _ rfl
  have hsp : s = .string ⟨sep.toArray⟩ := hsp
  subst hsp
  have hvs : vs.toArray = #[a, .string ⟨sep.toArray⟩] := by
    rcases vs with _ | ⟨x, _ | ⟨y, _ | ⟨z, t⟩⟩⟩
    · cases ha
    · cases hs
    · cases ha; cases hs; rfl
    · simp at hl
  rw [hvs]
  obtain ⟨A, c, q1, q2, q3⟩ := hap
  simp only [List.length_map] at q1 q2
  subst q1
  by_cases hne : l = []
  · subst hne
    refine (Tryz.strings_Join_none A c ⟨sep.toArray⟩ w).mono ?_
    rintro e w' ⟨rfl, rfl⟩
    exact ⟨_, rfl, rfl, Kp.refl _ _⟩
  · obtain ⟨b, off, size, rfl, hMb, arr, t, fz, q5, q6, q7⟩ := q3 (by simpa using hne)
    have hsz : size = 1 := by
      cases hq : l with
      | nil => exact absurd hq hne
      | cons x l' => have := q6 (C_string x) (by rw [hq]; simp); simpa using this.symm
    subst hsz
    have e1 : ((l.map fun x => ByteArray.mk x.toArray).map (·.data.toList)) = l := by
      rw [List.map_map]
      exact (List.map_congr_left fun x _ => rfl).trans (List.map_id l)
    have hj := Tryz.strings_Join b off c (l.map fun x => ByteArray.mk x.toArray) ⟨sep.toArray⟩ w (fun j x hx => by
      rw [List.getElem?_map] at hx
      cases hq : l[j]? with
      | none => rw [hq] at hx; cases hx
      | some y =>
        rw [hq] at hx
        cases hx
        obtain ⟨v, r1, r2, _⟩ := q7 j 0 (C_string y) (vstr y) (by rw [List.getElem?_map, hq]; rfl) rfl
        have r2 : v = .string ⟨y.toArray⟩ := r2
        rw [cell_of_row w b _ _ _ _ q5]
        simp only [Nat.mul_one, Nat.add_zero] at r1
        rw [r1, r2]) (heap_lt q5) (by simp; omega) (by simpa using q2) (by rw [e1]; simp only; omega)
    rw [List.length_map, e1] at hj
    refine hj.mono ?_
    rintro e w' ⟨rfl, hb⟩
    exact ⟨_, rfl, rfl, Kp.of_below hb⟩
theorem k_gatemake_Stream_Words (s1 : S_gatemake_Stream) (many2 : Int) (between3 : Bs) (l4 : (List Bs)) (r : (Bs × S_gatemake_Stream)) (H : m_gatemake_Stream_Words s1 many2 between3 l4 = some r) : Imp Tryz.prog 16 25 (C_gatemake_Stream s1) [vint many2, vstr between3, vlst (List.map C_string l4)] (resOf [vstr r.1]) (C_gatemake_Stream r.2) := by
  refine imp_of (us := [vstr r.1]) (cs' := (C_gatemake_Stream r.2)) (by kernel_rfl) Tryz.func16 rfl rfl rfl rfl fun X bl hN => ?_
  unfold m_gatemake_Stream_Words at H
  refine awp_seq ?_
  refine awp_plain hN rfl ?_
  refine seq_run0 (stp_assign (.dat _) rfl) ?_
  refine awp_seq ?_
  refine awp_plain hN rfl ?_
  refine seq_run0 (stp_assign (.dat _) rfl) ?_
  refine awp_seq ?_
  refine awp_seq ?_
  refine awp_plain hN rfl ?_
  refine seq_run0 (stp_move (.dat _) rfl) ?_
  refine seq_run0 (stp_move (.dat _) rfl) ?_
  refine awp_block ?_
  refine awp_nilrow 9 1 9 1 rfl rfl rfl ?_
  obtain ⟨h10, H⟩ := gif H
  refine awp_rng (fun (k8 : Nat) (s : (List Int) × Int × (List Bs)) => [(0, .ptr 0 0), (2, .dat (vstr between3)), (3, .dat (vlst (List.map C_string l4))), (9, .row 1 s.2.2.length), (10, .dat (vint many2)), (11, .dat (vint (k8 : Int)))]) (fun (k8 : Nat) (s : (List Int) × Int × (List Bs)) => [(0, .box (some bl) 25 [.dat (vlst (List.map C_int s.1)), .dat (vint s.2.1)]), (1, .row 9 1 (List.map C_string s.2.2))]) (s1.L, s1.at_, []) H ⟨rfl, rfl, rfl, rfl, rfl, rfl, trivial⟩ ⟨rfl, rfl, trivial⟩ (fun _ _ => rfl) ?_ ?_
  · rintro ⟨c5, c6, l7⟩ H
    replace H : gatemake_Stream_Words_E1 between3 c5 c6 l7 = some r := H
    unfold gatemake_Stream_Words_E1 at H
    refine awp_seq ?_
    refine awp_plain hN rfl ?_
    refine seq_run0 (stp_lss rfl rfl) ?_
    refine awp_seq ?_
    refine awp_cond _ rfl (fun h => (lt_tI h).elim) (fun h => ?_)
    refine awp_exit ?_
    refine awp_seq ?_
    refine t_freeze 9 1 rfl rfl rfl ?_
    refine awp_plain hN rfl ?_
    refine seq_run0 (stp_move (.dat _) rfl) ?_
    refine seq_run0 (stp_move (.dat _) rfl) ?_
    obtain ⟨r11, h12, H⟩ := bnd H
    refine seq_run0 (stp_call (k_strings_Join l7 between3 r11 h12) ⟨.inl rfl, .inl rfl, trivial⟩) ?_
    refine seq_run0 (stp_assign (.dat _) rfl) ?_
    refine awp_ret ?_
    cases H
    exact ⟨trivial, ⟨.inl rfl, trivial⟩, rfl⟩
  · rintro k8 ⟨c5, c6, l7⟩ q9 h13 H hq9
    replace H : gatemake_Stream_Words_L1 l4 k8 c5 c6 l7 = some q9 := H
    unfold gatemake_Stream_Words_L1 at H
    refine awp_seq ?_
    refine awp_plain hN rfl ?_
    refine seq_run0 (stp_lss rfl rfl) ?_
    refine awp_seq ?_
    refine awp_cond _ rfl (fun h => ?_) (fun h => (lt_fI h13 h).elim)
    refine awp_skip ?_
    refine awp_seq ?_
    refine awp_block ?_
    refine awp_plain hN rfl ?_
    refine seq_run0 (stp_move (.row _ _) rfl) ?_
    refine seq_run0 (stp_move (.ptr _ _) rfl) ?_
    refine seq_run0 (stp_move (.dat _) rfl) ?_
    obtain ⟨r14, h15, H⟩ := bnd H
    refine seq_run2 (stp_imp (k_gatemake_Stream_Some (S_gatemake_Stream.mk c5 c6) l4 r14 h15) rfl ⟨.inl rfl, trivial⟩ rfl) rfl ?_
    refine seq_run0 (stp_dat (u' := vlst (List.map C_string [r14.1])) (stp_lit [[_]] tyL48 ⟨rfl, .inl ⟨_, rfl, rfl, rfl⟩, rfl, trivial⟩ rfl rfl) rfl) ?_
    obtain ⟨h16, H⟩ := gif H
    refine seq_run2 (t_app tyL48 (fun _ => rfl) rfl rfl rfl ⟨by simp, by first | (simp; done) | simpa using h16⟩ rfl) rfl ?_
    refine seq_run0 (stp_assign (.row _ _) rfl) ?_
    refine awp_plain hN rfl ?_
    refine seq_run0 (stp_add rfl rfl (by omega)) ?_
    refine seq_run0 (stp_move (.dat _) rfl) ?_
    exact ⟨_, backl H, ⟨rfl, rfl, rfl, rfl, rfl, rfl, trivial⟩, ⟨rfl, rfl, trivial⟩⟩
theorem k_gatemake_Stream_Flip (s1 : S_gatemake_Stream) (n2 : Int) (r : (Bool × S_gatemake_Stream)) (H : m_gatemake_Stream_Flip s1 n2 = some r) : Imp Tryz.prog 18 25 (C_gatemake_Stream s1) [vint n2] (resOf [vbool r.1]) (C_gatemake_Stream r.2) := by
  refine imp_of (us := [vbool r.1]) (cs' := (C_gatemake_Stream r.2)) (by kernel_rfl) Tryz.func18 rfl rfl rfl rfl fun X bl hN => ?_
  unfold m_gatemake_Stream_Flip at H
  refine awp_seq ?_
  refine awp_plain hN rfl ?_
  refine seq_run0 (stp_assign (.dat _) rfl) ?_
  refine awp_seq ?_
  refine awp_plain hN rfl ?_
  refine seq_run0 (stp_move (.ptr _ _) rfl) ?_
  refine seq_run0 (stp_move (.dat _) rfl) ?_
  obtain ⟨r3, h4, H⟩ := bnd H
  refine seq_run2 (stp_imp (k_gatemake_Stream_Next s1 n2 r3 h4) rfl ⟨.inl rfl, trivial⟩ rfl) rfl ?_
  refine seq_run0 (stp_eql rfl rfl) ?_
  refine seq_run0 (stp_assign (.dat _) rfl) ?_
  refine awp_ret ?_
  cases H
  exact ⟨trivial, ⟨.inl rfl, trivial⟩, rfl⟩
theorem k_gatemake_Stream_TagHeader (s1 : S_gatemake_Stream) (r : (Bs × S_gatemake_Stream)) (H : m_gatemake_Stream_TagHeader s1 = some r) : Imp Tryz.prog 4 25 (C_gatemake_Stream s1) [] (resOf [vstr r.1]) (C_gatemake_Stream r.2) := by
  refine imp_of (us := [vstr r.1]) (cs' := (C_gatemake_Stream r.2)) (by kernel_rfl) Tryz.func4 rfl rfl rfl rfl fun X bl hN => ?_
  unfold m_gatemake_Stream_TagHeader at H
  refine awp_seq ?_
  refine awp_plain hN rfl ?_
  refine seq_run0 (stp_assign (.dat _) rfl) ?_
  refine awp_seq ?_
  refine awp_plain hN rfl ?_
  refine seq_run0 (stp_move (.ptr _ _) rfl) ?_
  refine seq_run0 (stp_move (.ptr _ _) rfl) ?_
  obtain ⟨r2, h3, H⟩ := bnd H
  refine seq_run2 (stp_imp (k_gatemake_Stream_Range s1 1 3 r2 h3) rfl ⟨.inl rfl, .inl rfl, trivial⟩ rfl) rfl ?_
  refine seq_run0 (stp_move (.ptr _ _) rfl) ?_
  refine seq_run0 (stp_dat (u' := vlst (List.map C_string [[44], [44, 32], [32, 44, 32]])) (stp_lit [[_], [_], [_]] tyL48 ⟨rfl, .inl ⟨_, rfl, rfl, rfl⟩, rfl, rfl, .inl ⟨_, rfl, rfl, rfl⟩, rfl, rfl, .inl ⟨_, rfl, rfl, rfl⟩, rfl, trivial⟩ rfl rfl) rfl) ?_
  obtain ⟨r4, h5, H⟩ := bnd H
  refine seq_run2 (stp_imp (k_gatemake_Stream_Some r2.2 ([[44], [44, 32], [32, 44, 32]]) r4 h5) rfl ⟨.inl rfl, trivial⟩ rfl) rfl ?_
  refine seq_run0 (stp_dat (u' := vlst (List.map C_string [[34, 97, 34], [87, 47, 34, 98, 34], [34, 34], [34, 99, 47, 100, 34]])) (stp_lit [[_], [_], [_], [_]] tyL48 ⟨rfl, .inl ⟨_, rfl, rfl, rfl⟩, rfl, rfl, .inl ⟨_, rfl, rfl, rfl⟩, rfl, rfl, .inl ⟨_, rfl, rfl, rfl⟩, rfl, rfl, .inl ⟨_, rfl, rfl, rfl⟩, rfl, trivial⟩ rfl rfl) rfl) ?_
  obtain ⟨r6, h7, H⟩ := bnd H
  refine seq_run2 (stp_imp (k_gatemake_Stream_Words r4.2 r2.1 r4.1 ([[34, 97, 34], [87, 47, 34, 98, 34], [34, 34], [34, 99, 47, 100, 34]]) r6 h7) rfl ⟨.inl rfl, .inl rfl, .inl rfl, trivial⟩ rfl) rfl ?_
  refine seq_run0 (stp_assign (.dat _) rfl) ?_
  refine awp_joinE (ι := Bs × (List Int) × Int) (fun i => [(3, .dat (vstr i.1))]) (fun i => [(0, .box (some bl) 25 [.dat (vlst (List.map C_int i.2.1)), .dat (vint i.2.2)])]) (fun i => gatemake_Stream_TagHeader_J1 i.1 i.2.1 i.2.2 = some r) (fun i => rfl) ?_ ?_
  · skip
    refine awp_seq ?_
    refine awp_plain hN rfl ?_
    refine seq_run0 (stp_move (.ptr _ _) rfl) ?_
    obtain ⟨r8, h9, H⟩ := bnd H
    refine seq_run2 (stp_imp (k_gatemake_Stream_Flip r6.2 8 r8 h9) rfl ⟨.inl rfl, trivial⟩ rfl) rfl ?_
    refine awp_cond _ rfl (fun h10 => ?_) (fun h10 => ?_)
    · replace H := ift h10 H
      refine awp_plain hN rfl ?_
      refine seq_run0 (stp_move (.ptr _ _) rfl) ?_
      refine seq_run0 (stp_dat (u' := vlst (List.map C_string [[42], [42, 32], [], [97], [34, 97], [34, 97, 34, 34, 98, 34], [119, 47, 34, 97, 34], [34, 97, 32, 98, 34], [44, 34, 97, 34]])) (stp_lit [[_], [_], [_], [_], [_], [_], [_], [_], [_]] tyL48 ⟨rfl, .inl ⟨_, rfl, rfl, rfl⟩, rfl, rfl, .inl ⟨_, rfl, rfl, rfl⟩, rfl, rfl, .inl ⟨_, rfl, rfl, rfl⟩, rfl, rfl, .inl ⟨_, rfl, rfl, rfl⟩, rfl, rfl, .inl ⟨_, rfl, rfl, rfl⟩, rfl, rfl, .inl ⟨_, rfl, rfl, rfl⟩, rfl, rfl, .inl ⟨_, rfl, rfl, rfl⟩, rfl, rfl, .inl ⟨_, rfl, rfl, rfl⟩, rfl, rfl, .inl ⟨_, rfl, rfl, rfl⟩, rfl, trivial⟩ rfl rfl) rfl) ?_
      obtain ⟨r11, h12, H⟩ := bnd H
      refine seq_run2 (stp_imp (k_gatemake_Stream_Some r8.2 ([[42], [42, 32], [], [97], [34, 97], [34, 97, 34, 34, 98, 34], [119, 47, 34, 97, 34], [34, 97, 32, 98, 34], [44, 34, 97, 34]]) r11 h12) rfl ⟨.inl rfl, trivial⟩ rfl) rfl ?_
      refine seq_run0 (stp_assign (.dat _) rfl) ?_
      exact ⟨(r11.1, r11.2.L, r11.2.at_), H, ⟨rfl, trivial⟩, ⟨rfl, trivial⟩⟩
    · replace H := iff_ h10 H
      refine awp_skip ?_
      exact ⟨(r6.1, r8.2.L, r8.2.at_), H, ⟨rfl, trivial⟩, ⟨rfl, trivial⟩⟩
  · rintro ⟨t13, c14, c15⟩ H
    replace H : gatemake_Stream_TagHeader_J1 t13 c14 c15 = some r := H
    unfold gatemake_Stream_TagHeader_J1 at H
    refine awp_seq ?_
    refine awp_plain hN rfl ?_
    refine seq_run0 (stp_move (.dat _) rfl) ?_
    refine seq_run0 (stp_assign (.dat _) rfl) ?_
    refine awp_ret ?_
    cases H
    exact ⟨trivial, ⟨.inl rfl, trivial⟩, rfl⟩
theorem k_gatemake_Stream_AskValue (s1 : S_gatemake_Stream) (r : (Bs × S_gatemake_Stream)) (H : m_gatemake_Stream_AskValue s1 = some r) : Imp Tryz.prog 20 25 (C_gatemake_Stream s1) [] (resOf [vstr r.1]) (C_gatemake_Stream r.2) := by
  refine imp_of (us := [vstr r.1]) (cs' := (C_gatemake_Stream r.2)) (by kernel_rfl) Tryz.func20 rfl rfl rfl rfl fun X bl hN => ?_
  unfold m_gatemake_Stream_AskValue at H
  refine awp_seq ?_
  refine awp_plain hN rfl ?_
  refine seq_run0 (stp_assign (.dat _) rfl) ?_
  refine awp_seq ?_
  refine awp_plain hN rfl ?_
  refine seq_run0 (stp_move (.ptr _ _) rfl) ?_
  refine seq_run0 (stp_move (.ptr _ _) rfl) ?_
  obtain ⟨r2, h3, H⟩ := bnd H
  refine seq_run2 (stp_imp (k_gatemake_Stream_Range s1 1 2 r2 h3) rfl ⟨.inl rfl, .inl rfl, trivial⟩ rfl) rfl ?_
  refine seq_run0 (stp_dat (u' := vlst (List.map C_string [[109, 97, 120, 45, 97, 103, 101, 61, 51, 48], [109, 97, 120, 45, 97, 103, 101, 61, 48], [109, 105, 110, 45, 102, 114, 101, 115, 104, 61, 50, 48], [109, 97, 120, 45, 115, 116, 97, 108, 101, 61, 49, 53], [110, 111, 45, 99, 97, 99, 104, 101], [111, 110, 108, 121, 45, 105, 102, 45, 99, 97, 99, 104, 101, 100], [109, 97, 120, 45, 115, 116, 97, 108, 101, 61, 49, 48, 48, 48], [110, 111, 45, 115, 116, 111, 114, 101]])) (stp_lit [[_], [_], [_], [_], [_], [_], [_], [_]] tyL48 ⟨rfl, .inl ⟨_, rfl, rfl, rfl⟩, rfl, rfl, .inl ⟨_, rfl, rfl, rfl⟩, rfl, rfl, .inl ⟨_, rfl, rfl, rfl⟩, rfl, rfl, .inl ⟨_, rfl, rfl, rfl⟩, rfl, rfl, .inl ⟨_, rfl, rfl, rfl⟩, rfl, rfl, .inl ⟨_, rfl, rfl, rfl⟩, rfl, rfl, .inl ⟨_, rfl, rfl, rfl⟩, rfl, rfl, .inl ⟨_, rfl, rfl, rfl⟩, rfl, trivial⟩ rfl rfl) rfl) ?_
  obtain ⟨r4, h5, H⟩ := bnd H
  refine seq_run2 (stp_imp (k_gatemake_Stream_Words r2.2 r2.1 [44, 32] ([[109, 97, 120, 45, 97, 103, 101, 61, 51, 48], [109, 97, 120, 45, 97, 103, 101, 61, 48], [109, 105, 110, 45, 102, 114, 101, 115, 104, 61, 50, 48], [109, 97, 120, 45, 115, 116, 97, 108, 101, 61, 49, 53], [110, 111, 45, 99, 97, 99, 104, 101], [111, 110, 108, 121, 45, 105, 102, 45, 99, 97, 99, 104, 101, 100], [109, 97, 120, 45, 115, 116, 97, 108, 101, 61, 49, 48, 48, 48], [110, 111, 45, 115, 116, 111, 114, 101]]) r4 h5) rfl ⟨.inl rfl, .inl rfl, .inl rfl, trivial⟩ rfl) rfl ?_
  refine seq_run0 (stp_assign (.dat _) rfl) ?_
  refine awp_joinE (ι := Bs × (List Int) × Int) (fun i => [(3, .dat (vstr i.1))]) (fun i => [(0, .box (some bl) 25 [.dat (vlst (List.map C_int i.2.1)), .dat (vint i.2.2)])]) (fun i => gatemake_Stream_AskValue_J1 i.1 i.2.1 i.2.2 = some r) (fun i => rfl) ?_ ?_
  · skip
    refine awp_seq ?_
    refine awp_plain hN rfl ?_
    refine seq_run0 (stp_move (.ptr _ _) rfl) ?_
    obtain ⟨r6, h7, H⟩ := bnd H
    refine seq_run2 (stp_imp (k_gatemake_Stream_Flip r4.2 20 r6 h7) rfl ⟨.inl rfl, trivial⟩ rfl) rfl ?_
    refine awp_cond _ rfl (fun h8 => ?_) (fun h8 => ?_)
    · replace H := ift h8 H
      refine awp_plain hN rfl ?_
      refine seq_run0 (stp_move (.ptr _ _) rfl) ?_
      refine seq_run0 (stp_dat (u' := vlst (List.map C_string [[109, 97, 120, 45, 115, 116, 97, 108, 101], [109, 105, 110, 45, 102, 114, 101, 115, 104, 61, 120]])) (stp_lit [[_], [_]] tyL48 ⟨rfl, .inl ⟨_, rfl, rfl, rfl⟩, rfl, rfl, .inl ⟨_, rfl, rfl, rfl⟩, rfl, trivial⟩ rfl rfl) rfl) ?_
      obtain ⟨r9, h10, H⟩ := bnd H
      refine seq_run2 (stp_imp (k_gatemake_Stream_Some r6.2 ([[109, 97, 120, 45, 115, 116, 97, 108, 101], [109, 105, 110, 45, 102, 114, 101, 115, 104, 61, 120]]) r9 h10) rfl ⟨.inl rfl, trivial⟩ rfl) rfl ?_
      refine seq_run0 (stp_assign (.dat _) rfl) ?_
      exact ⟨(r9.1, r9.2.L, r9.2.at_), H, ⟨rfl, trivial⟩, ⟨rfl, trivial⟩⟩
    · replace H := iff_ h8 H
      refine awp_skip ?_
      exact ⟨(r4.1, r6.2.L, r6.2.at_), H, ⟨rfl, trivial⟩, ⟨rfl, trivial⟩⟩
  · rintro ⟨t11, c12, c13⟩ H
    replace H : gatemake_Stream_AskValue_J1 t11 c12 c13 = some r := H
    unfold gatemake_Stream_AskValue_J1 at H
    refine awp_seq ?_
    refine awp_plain hN rfl ?_
    refine seq_run0 (stp_move (.dat _) rfl) ?_
    refine seq_run0 (stp_assign (.dat _) rfl) ?_
    refine awp_ret ?_
    cases H
    exact ⟨trivial, ⟨.inl rfl, trivial⟩, rfl⟩
theorem k_strings_Repeat (s : Bs) (n : Int) (r : Bs) (H : m_strings_Repeat s n = some r) : Fn Tryz.prog 24 [vstr s, vint n] (resOf [vstr r]) := by
  obtain ⟨h0, h1, h2, rfl⟩ := repeat_some H
  obtain ⟨c, rfl⟩ := Int.eq_ofNat_of_zero_le h0
  refine fn_of_calls (by kernel_rfl) fun M w vs h => ?_
  have hv := Ts_vals (us := [.string ⟨s.toArray⟩, .int .i64 c]) h
  subst hv
  have hs : (ByteArray.mk s.toArray).size = s.length := by simp [ByteArray.size]
  refine (Tryz.strings_Repeat ⟨s.toArray⟩ c w (by omega) (by rw [hs]; exact Nat.le_trans (Nat.mul_le_mul h2 (show c ≤ 1000000 by omega)) (by decide))).mono ?_
  rintro e w' ⟨rfl, hb⟩
  exact ⟨_, rfl, by simp [resOf, vstr, vval], Kp.of_below hb⟩
theorem k_gatemake_Stream_Changed (s1 : S_gatemake_Stream) (t2 : Bs) (v3 : Bs) (r : (Bs × S_gatemake_Stream)) (H : m_gatemake_Stream_Changed s1 t2 v3 = some r) : Imp Tryz.prog 49 25 (C_gatemake_Stream s1) [vstr t2, vstr v3] (resOf [vstr r.1]) (C_gatemake_Stream r.2) := by
  refine imp_of (us := [vstr r.1]) (cs' := (C_gatemake_Stream r.2)) (by kernel_rfl) Tryz.func49 rfl rfl rfl rfl fun X bl hN => ?_
  unfold m_gatemake_Stream_Changed at H
  refine awp_seq ?_
  refine awp_plain hN rfl ?_
  refine seq_run0 (stp_assign (.dat _) rfl) ?_
  refine awp_seq ?_
  refine awp_seq ?_
  refine awp_plain hN rfl ?_
  refine seq_run0 (stp_move (.dat _) rfl) ?_
  refine seq_run0 (stp_seql rfl rfl) ?_
  refine seq_run0 (stp_move (.dat _) rfl) ?_
  refine seq_aF rfl rfl (fun hc => stp_move (.dat _) rfl) ?_
  refine seq_aF rfl rfl (fun hc => stp_seql (cnd (c := (!(decide (t2 = [])))) hc) rfl) ?_
  refine seq_run0 (stp_pick_or rfl rfl (fun hb => (cnd (c := (!(decide (t2 = [])))) (notI hb)))) ?_
  refine awp_cond _ rfl (fun h4 => ?_) (fun h4 => ?_)
  · replace H := ift h4 H
    refine awp_seq ?_
    refine awp_plain hN rfl ?_
    refine seq_run0 (stp_move (.dat _) rfl) ?_
    refine seq_run0 (stp_assign (.dat _) rfl) ?_
    refine awp_ret ?_
    cases H
    exact ⟨trivial, ⟨.inl rfl, trivial⟩, rfl⟩
  · replace H := iff_ h4 H
    refine awp_skip ?_
    refine awp_seq ?_
    refine awp_plain hN rfl ?_
    refine seq_run0 (stp_move (.ptr _ _) rfl) ?_
    refine seq_run0 (stp_move (.dat _) rfl) ?_
    refine seq_run0 (stp_len_str tyU9 rfl) ?_
    obtain ⟨r5, h6, H⟩ := bnd H
    refine seq_run2 (stp_imp (k_gatemake_Stream_Next s1 (t2.length : Int) r5 h6) rfl ⟨.inl rfl, trivial⟩ rfl) rfl ?_
    refine seq_run0 (stp_assign (.dat _) rfl) ?_
    refine awp_seq ?_
    refine awp_plain hN rfl ?_
    refine seq_run0 (stp_move (.dat _) rfl) ?_
    refine seq_run0 (stp_move (.ptr _ _) rfl) ?_
    refine seq_run0 (stp_move (.dat _) rfl) ?_
    refine seq_run0 (stp_len_str tyU9 rfl) ?_
    obtain ⟨r7, h8, H⟩ := bnd H
    refine seq_run2 (stp_imp (k_gatemake_Stream_Next r5.2 (v3.length : Int) r7 h8) rfl ⟨.inl rfl, trivial⟩ rfl) rfl ?_
    obtain ⟨x9, h10, H⟩ := bnd H
    refine seq_run0 (t_byteI tyU9 rfl rfl h10) ?_
    refine seq_run0 (stp_assign (.dat _) rfl) ?_
    refine awp_seq ?_
    refine awp_seq ?_
    refine awp_plain hN rfl ?_
    refine seq_run0 (stp_move (.ptr _ _) rfl) ?_
    obtain ⟨r11, h12, H⟩ := bnd H
    refine seq_run2 (stp_imp (k_gatemake_Stream_Next r7.2 3 r11 h12) rfl ⟨.inl rfl, trivial⟩ rfl) rfl ?_
    refine awp_block ?_
    refine awp_seq ?_
    refine awp_plain hN rfl ?_
    refine seq_run0 (stp_eql rfl rfl) ?_
    refine seq_run0 (stp_assign (.dat _) rfl) ?_
    refine awp_cond _ rfl (fun h13 => ?_) (fun h13 => ?_)
    · replace H := ift h13 H
      refine awp_seq ?_
      refine awp_draw mixed hN rfl rfl ?_
      refine seq_run0 (stp_move (.dat _) rfl) ?_
      refine seq_run0 (stp_move (.dat _) rfl) ?_
      obtain ⟨l14, h15, H⟩ := bnd H
      refine seq_run0 (t_subS tyU9 rfl rfl rfl h15) ?_
      refine seq_run0 (stp_move (.dat _) rfl) ?_
      refine seq_run0 (stp_conv tyU5 tyU21 rfl) ?_
      refine seq_run0 (stp_convR tyU21 rfl tyU9 rfl) ?_
      obtain ⟨h16, H⟩ := gif H
      refine seq_run0 (stp_sadd rfl rfl (Nat.le_trans h16 (by decide))) ?_
      refine seq_run0 (stp_move (.dat _) rfl) ?_
      refine seq_run0 (stp_move (.dat _) rfl) ?_
      refine seq_run0 (stp_wrap _ rfl rfl (.inl ⟨rfl, rfl⟩)) ?_
      obtain ⟨l17, h18, H⟩ := bnd H
      refine seq_run0 (t_subS tyU9 rfl rfl rfl h18) ?_
      obtain ⟨h19, H⟩ := gif H
      refine seq_run0 (stp_sadd rfl rfl (Nat.le_trans h19 (by decide))) ?_
      refine seq_run0 (stp_assign (.dat _) rfl) ?_
      refine ⟨rfl, ?_⟩
      refine awp_ret ?_
      cases H
      exact ⟨trivial, ⟨.inl rfl, trivial⟩, rfl⟩
    · replace H := iff_ h13 H
      refine awp_seq ?_
      refine awp_plain hN rfl ?_
      refine seq_run0 (stp_eql rfl rfl) ?_
      refine seq_run0 (stp_assign (.dat _) rfl) ?_
      refine awp_cond _ rfl (fun h20 => ?_) (fun h20 => ?_)
      · replace H := ift h20 H
        refine awp_seq ?_
        refine awp_draw mixed hN rfl rfl ?_
        refine seq_run0 (stp_move (.dat _) rfl) ?_
        refine seq_run0 (stp_move (.dat _) rfl) ?_
        obtain ⟨l21, h22, H⟩ := bnd H
        refine seq_run0 (t_subS tyU9 rfl rfl rfl h22) ?_
        refine seq_run0 (stp_move (.dat _) rfl) ?_
        refine seq_run0 (stp_conv tyU5 tyU21 rfl) ?_
        refine seq_run0 (stp_convR tyU21 rfl tyU9 rfl) ?_
        obtain ⟨h23, H⟩ := gif H
        refine seq_run0 (stp_sadd rfl rfl (Nat.le_trans h23 (by decide))) ?_
        refine seq_run0 (stp_move (.dat _) rfl) ?_
        refine seq_run0 (stp_move (.dat _) rfl) ?_
        obtain ⟨l24, h25, H⟩ := bnd H
        refine seq_run0 (t_subS tyU9 rfl rfl rfl h25) ?_
        obtain ⟨h26, H⟩ := gif H
        refine seq_run0 (stp_sadd rfl rfl (Nat.le_trans h26 (by decide))) ?_
        refine seq_run0 (stp_assign (.dat _) rfl) ?_
        refine ⟨rfl, ?_⟩
        refine awp_ret ?_
        cases H
        exact ⟨trivial, ⟨.inl rfl, trivial⟩, rfl⟩
      · replace H := iff_ h20 H
        refine awp_skip ?_
        refine awp_seq ?_
        refine awp_draw mixed hN rfl rfl ?_
        refine seq_run0 (stp_move (.dat _) rfl) ?_
        refine seq_run0 (stp_move (.dat _) rfl) ?_
        obtain ⟨l27, h28, H⟩ := bnd H
        refine seq_run0 (t_subS tyU9 rfl rfl rfl h28) ?_
        refine seq_run0 (stp_move (.dat _) rfl) ?_
        refine seq_run0 (stp_move (.dat _) rfl) ?_
        refine seq_run0 (stp_wrap _ rfl rfl (.inl ⟨rfl, rfl⟩)) ?_
        obtain ⟨l29, h30, H⟩ := bnd H
        refine seq_run0 (t_subS tyU9 rfl rfl rfl h30) ?_
        obtain ⟨h31, H⟩ := gif H
        refine seq_run0 (stp_sadd rfl rfl (Nat.le_trans h31 (by decide))) ?_
        refine seq_run0 (stp_assign (.dat _) rfl) ?_
        refine ⟨rfl, ?_⟩
        refine awp_ret ?_
        cases H
        exact ⟨trivial, ⟨.inl rfl, trivial⟩, rfl⟩
theorem k_gatemake_Stream_PathName (s1 : S_gatemake_Stream) (r : (Bs × S_gatemake_Stream)) (H : m_gatemake_Stream_PathName s1 = some r) : Imp Tryz.prog 21 25 (C_gatemake_Stream s1) [] (resOf [vstr r.1]) (C_gatemake_Stream r.2) := by
  refine imp_of (us := [vstr r.1]) (cs' := (C_gatemake_Stream r.2)) (by kernel_rfl) Tryz.func21 rfl rfl rfl rfl fun X bl hN => ?_
  unfold m_gatemake_Stream_PathName at H
  refine awp_seq ?_
  refine awp_plain hN rfl ?_
  refine seq_run0 (stp_assign (.dat _) rfl) ?_
  refine awp_seq ?_
  refine awp_plain hN rfl ?_
  refine seq_run0 (stp_move (.ptr _ _) rfl) ?_
  refine seq_run0 (stp_move (.ptr _ _) rfl) ?_
  obtain ⟨r2, h3, H⟩ := bnd H
  refine seq_run2 (stp_imp (k_gatemake_Stream_Range s1 0 4 r2 h3) rfl ⟨.inl rfl, .inl rfl, trivial⟩ rfl) rfl ?_
  refine seq_run0 (stp_dat (u' := vlst (List.map C_string [[97], [98], [37, 52, 49], [37, 50, 102], [37, 55, 101], [46], [46, 46], [], [120, 59, 121], [99, 37, 50, 48, 100], [37, 99, 51, 37, 97, 52], [65], [97, 46, 98], [126]])) (stp_lit [[_], [_], [_], [_], [_], [_], [_], [_], [_], [_], [_], [_], [_], [_]] tyL48 ⟨rfl, .inl ⟨_, rfl, rfl, rfl⟩, rfl, rfl, .inl ⟨_, rfl, rfl, rfl⟩, rfl, rfl, .inl ⟨_, rfl, rfl, rfl⟩, rfl, rfl, .inl ⟨_, rfl, rfl, rfl⟩, rfl, rfl, .inl ⟨_, rfl, rfl, rfl⟩, rfl, rfl, .inl ⟨_, rfl, rfl, rfl⟩, rfl, rfl, .inl ⟨_, rfl, rfl, rfl⟩, rfl, rfl, .inl ⟨_, rfl, rfl, rfl⟩, rfl, rfl, .inl ⟨_, rfl, rfl, rfl⟩, rfl, rfl, .inl ⟨_, rfl, rfl, rfl⟩, rfl, rfl, .inl ⟨_, rfl, rfl, rfl⟩, rfl, rfl, .inl ⟨_, rfl, rfl, rfl⟩, rfl, rfl, .inl ⟨_, rfl, rfl, rfl⟩, rfl, rfl, .inl ⟨_, rfl, rfl, rfl⟩, rfl, trivial⟩ rfl rfl) rfl) ?_
  obtain ⟨r4, h5, H⟩ := bnd H
  refine seq_run2 (stp_imp (k_gatemake_Stream_Words r2.2 r2.1 [47] ([[97], [98], [37, 52, 49], [37, 50, 102], [37, 55, 101], [46], [46, 46], [], [120, 59, 121], [99, 37, 50, 48, 100], [37, 99, 51, 37, 97, 52], [65], [97, 46, 98], [126]]) r4 h5) rfl ⟨.inl rfl, .inl rfl, .inl rfl, trivial⟩ rfl) rfl ?_
  obtain ⟨h6, H⟩ := gif H
  refine seq_run0 (stp_sadd rfl rfl (Nat.le_trans h6 (by decide))) ?_
  refine seq_run0 (stp_assign (.dat _) rfl) ?_
  refine awp_joinE (ι := Bs × (List Int) × Int) (fun i => [(0, .ptr 0 0), (3, .dat (vstr i.1))]) (fun i => [(0, .box (some bl) 25 [.dat (vlst (List.map C_int i.2.1)), .dat (vint i.2.2)])]) (fun i => gatemake_Stream_PathName_J1 i.1 i.2.1 i.2.2 = some r) (fun i => rfl) ?_ ?_
  · skip
    refine awp_seq ?_
    refine awp_plain hN rfl ?_
    refine seq_run0 (stp_move (.ptr _ _) rfl) ?_
    obtain ⟨r7, h8, H⟩ := bnd H
    refine seq_run2 (stp_imp (k_gatemake_Stream_Flip r4.2 12 r7 h8) rfl ⟨.inl rfl, trivial⟩ rfl) rfl ?_
    refine awp_cond _ rfl (fun h9 => ?_) (fun h9 => ?_)
    · replace H := ift h9 H
      refine awp_plain hN rfl ?_
      refine seq_run0 (stp_move (.ptr _ _) rfl) ?_
      obtain ⟨r10, h11, H⟩ := bnd H
      refine seq_run0 (stp_call (k_strings_Repeat [37, 50, 48] 340 r10 h11) ⟨.inl rfl, .inl rfl, trivial⟩) ?_
      obtain ⟨h12, H⟩ := gif H
      refine seq_run0 (stp_sadd rfl rfl (Nat.le_trans h12 (by decide))) ?_
      refine seq_run0 (stp_dat (u' := vlst (List.map C_string [[], [97], [47, 97, 63, 98], [47, 97, 35], [47, 37], [47, 37, 52], [47, 37, 122, 122], [47, 127], [47, 97, 32, 98], ([47] ++ r10)])) (stp_lit [[_], [_], [_], [_], [_], [_], [_], [_], [_], [_]] tyL48 ⟨rfl, .inl ⟨_, rfl, rfl, rfl⟩, rfl, rfl, .inl ⟨_, rfl, rfl, rfl⟩, rfl, rfl, .inl ⟨_, rfl, rfl, rfl⟩, rfl, rfl, .inl ⟨_, rfl, rfl, rfl⟩, rfl, rfl, .inl ⟨_, rfl, rfl, rfl⟩, rfl, rfl, .inl ⟨_, rfl, rfl, rfl⟩, rfl, rfl, .inl ⟨_, rfl, rfl, rfl⟩, rfl, rfl, .inl ⟨_, rfl, rfl, rfl⟩, rfl, rfl, .inl ⟨_, rfl, rfl, rfl⟩, rfl, rfl, .inl ⟨_, rfl, rfl, rfl⟩, rfl, trivial⟩ rfl rfl) rfl) ?_
      obtain ⟨r13, h14, H⟩ := bnd H
      refine seq_run2 (stp_imp (k_gatemake_Stream_Some r7.2 ([[], [97], [47, 97, 63, 98], [47, 97, 35], [47, 37], [47, 37, 52], [47, 37, 122, 122], [47, 127], [47, 97, 32, 98], ([47] ++ r10)]) r13 h14) rfl ⟨.inl rfl, trivial⟩ rfl) rfl ?_
      refine seq_run0 (stp_assign (.dat _) rfl) ?_
      exact ⟨(r13.1, r13.2.L, r13.2.at_), H, ⟨rfl, rfl, trivial⟩, ⟨rfl, trivial⟩⟩
    · replace H := iff_ h9 H
      refine awp_skip ?_
      exact ⟨(([47] ++ r4.1), r7.2.L, r7.2.at_), H, ⟨rfl, rfl, trivial⟩, ⟨rfl, trivial⟩⟩
  · rintro ⟨p15, c16, c17⟩ H
    replace H : gatemake_Stream_PathName_J1 p15 c16 c17 = some r := H
    unfold gatemake_Stream_PathName_J1 at H
    refine awp_joinE (ι := Bs × (List Int) × Int) (fun i => [(3, .dat (vstr i.1))]) (fun i => [(0, .box (some bl) 25 [.dat (vlst (List.map C_int i.2.1)), .dat (vint i.2.2)])]) (fun i => gatemake_Stream_PathName_J2 i.1 i.2.1 i.2.2 = some r) (fun i => rfl) ?_ ?_
    · skip
      refine awp_seq ?_
      refine awp_plain hN rfl ?_
      refine seq_run0 (stp_move (.ptr _ _) rfl) ?_
      obtain ⟨r18, h19, H⟩ := bnd H
      refine seq_run2 (stp_imp (k_gatemake_Stream_Flip (S_gatemake_Stream.mk c16 c17) 12 r18 h19) rfl ⟨.inl rfl, trivial⟩ rfl) rfl ?_
      refine awp_cond _ rfl (fun h20 => ?_) (fun h20 => ?_)
      · replace H := ift h20 H
        refine awp_plain hN rfl ?_
        refine seq_run0 (stp_move (.ptr _ _) rfl) ?_
        refine seq_run0 (stp_move (.dat _) rfl) ?_
        obtain ⟨r21, h22, H⟩ := bnd H
        refine seq_run2 (stp_imp (k_gatemake_Stream_Changed r18.2 p15 [47, 46, 37, 50, 102, 65] r21 h22) rfl ⟨.inl rfl, .inl rfl, trivial⟩ rfl) rfl ?_
        refine seq_run0 (stp_assign (.dat _) rfl) ?_
        exact ⟨(r21.1, r21.2.L, r21.2.at_), H, ⟨rfl, trivial⟩, ⟨rfl, trivial⟩⟩
      · replace H := iff_ h20 H
        refine awp_skip ?_
        exact ⟨(p15, r18.2.L, r18.2.at_), H, ⟨rfl, trivial⟩, ⟨rfl, trivial⟩⟩
    · rintro ⟨p23, c24, c25⟩ H
      replace H : gatemake_Stream_PathName_J2 p23 c24 c25 = some r := H
      unfold gatemake_Stream_PathName_J2 at H
      refine awp_seq ?_
      refine awp_plain hN rfl ?_
      refine seq_run0 (stp_move (.dat _) rfl) ?_
      refine seq_run0 (stp_assign (.dat _) rfl) ?_
      refine awp_ret ?_
      cases H
      exact ⟨trivial, ⟨.inl rfl, trivial⟩, rfl⟩
theorem k_gatemake_Stream_QueryName (s1 : S_gatemake_Stream) (r : (Bs × S_gatemake_Stream)) (H : m_gatemake_Stream_QueryName s1 = some r) : Imp Tryz.prog 22 25 (C_gatemake_Stream s1) [] (resOf [vstr r.1]) (C_gatemake_Stream r.2) := by
  refine imp_of (us := [vstr r.1]) (cs' := (C_gatemake_Stream r.2)) (by kernel_rfl) Tryz.func22 rfl rfl rfl rfl fun X bl hN => ?_
  unfold m_gatemake_Stream_QueryName at H
  refine awp_seq ?_
  refine awp_plain hN rfl ?_
  refine seq_run0 (stp_assign (.dat _) rfl) ?_
  refine awp_seq ?_
  refine awp_plain hN rfl ?_
  refine seq_run0 (stp_move (.ptr _ _) rfl) ?_
  refine seq_run0 (stp_move (.ptr _ _) rfl) ?_
  obtain ⟨r2, h3, H⟩ := bnd H
  refine seq_run2 (stp_imp (k_gatemake_Stream_Range s1 0 4 r2 h3) rfl ⟨.inl rfl, .inl rfl, trivial⟩ rfl) rfl ?_
  refine seq_run0 (stp_dat (u' := vlst (List.map C_string [[97, 61, 49], [98, 61, 50], [97, 61], [61, 120], [61], [99], [], [97, 61, 37, 52, 49, 43, 37, 50, 66], [100, 61, 120, 37, 50, 54, 121], [98, 61, 37, 99, 51], [97, 61, 49, 61, 50], [97, 63, 98, 61, 47]])) (stp_lit [[_], [_], [_], [_], [_], [_], [_], [_], [_], [_], [_], [_]] tyL48 ⟨rfl, .inl ⟨_, rfl, rfl, rfl⟩, rfl, rfl, .inl ⟨_, rfl, rfl, rfl⟩, rfl, rfl, .inl ⟨_, rfl, rfl, rfl⟩, rfl, rfl, .inl ⟨_, rfl, rfl, rfl⟩, rfl, rfl, .inl ⟨_, rfl, rfl, rfl⟩, rfl, rfl, .inl ⟨_, rfl, rfl, rfl⟩, rfl, rfl, .inl ⟨_, rfl, rfl, rfl⟩, rfl, rfl, .inl ⟨_, rfl, rfl, rfl⟩, rfl, rfl, .inl ⟨_, rfl, rfl, rfl⟩, rfl, rfl, .inl ⟨_, rfl, rfl, rfl⟩, rfl, rfl, .inl ⟨_, rfl, rfl, rfl⟩, rfl, rfl, .inl ⟨_, rfl, rfl, rfl⟩, rfl, trivial⟩ rfl rfl) rfl) ?_
  obtain ⟨r4, h5, H⟩ := bnd H
  refine seq_run2 (stp_imp (k_gatemake_Stream_Words r2.2 r2.1 [38] ([[97, 61, 49], [98, 61, 50], [97, 61], [61, 120], [61], [99], [], [97, 61, 37, 52, 49, 43, 37, 50, 66], [100, 61, 120, 37, 50, 54, 121], [98, 61, 37, 99, 51], [97, 61, 49, 61, 50], [97, 63, 98, 61, 47]]) r4 h5) rfl ⟨.inl rfl, .inl rfl, .inl rfl, trivial⟩ rfl) rfl ?_
  refine seq_run0 (stp_assign (.dat _) rfl) ?_
  refine awp_joinE (ι := Bs × (List Int) × Int) (fun i => [(3, .dat (vstr i.1))]) (fun i => [(0, .box (some bl) 25 [.dat (vlst (List.map C_int i.2.1)), .dat (vint i.2.2)])]) (fun i => gatemake_Stream_QueryName_J1 i.1 i.2.1 i.2.2 = some r) (fun i => rfl) ?_ ?_
  · skip
    refine awp_seq ?_
    refine awp_plain hN rfl ?_
    refine seq_run0 (stp_move (.ptr _ _) rfl) ?_
    obtain ⟨r6, h7, H⟩ := bnd H
    refine seq_run2 (stp_imp (k_gatemake_Stream_Flip r4.2 12 r6 h7) rfl ⟨.inl rfl, trivial⟩ rfl) rfl ?_
    refine awp_cond _ rfl (fun h8 => ?_) (fun h8 => ?_)
    · replace H := ift h8 H
      refine awp_plain hN rfl ?_
      refine seq_run0 (stp_move (.ptr _ _) rfl) ?_
      refine seq_run0 (stp_move (.ptr _ _) rfl) ?_
      refine seq_run0 (stp_dat (u' := vlst (List.map C_string [[120]])) (stp_lit [[_]] tyL48 ⟨rfl, .inl ⟨_, rfl, rfl, rfl⟩, rfl, trivial⟩ rfl rfl) rfl) ?_
      obtain ⟨r9, h10, H⟩ := bnd H
      refine seq_run2 (stp_imp (k_gatemake_Stream_Words r6.2 101 [38] ([[120]]) r9 h10) rfl ⟨.inl rfl, .inl rfl, .inl rfl, trivial⟩ rfl) rfl ?_
      refine seq_run0 (stp_dat (u' := vlst (List.map C_string [[35], [97, 37], [37, 103, 49, 61, 50], [97, 32, 98], [128], r9.1])) (stp_lit [[_], [_], [_], [_], [_], [_]] tyL48 ⟨rfl, .inl ⟨_, rfl, rfl, rfl⟩, rfl, rfl, .inl ⟨_, rfl, rfl, rfl⟩, rfl, rfl, .inl ⟨_, rfl, rfl, rfl⟩, rfl, rfl, .inl ⟨_, rfl, rfl, rfl⟩, rfl, rfl, .inl ⟨_, rfl, rfl, rfl⟩, rfl, rfl, .inl ⟨_, rfl, rfl, rfl⟩, rfl, trivial⟩ rfl rfl) rfl) ?_
      obtain ⟨r11, h12, H⟩ := bnd H
      refine seq_run2 (stp_imp (k_gatemake_Stream_Some r9.2 ([[35], [97, 37], [37, 103, 49, 61, 50], [97, 32, 98], [128], r9.1]) r11 h12) rfl ⟨.inl rfl, trivial⟩ rfl) rfl ?_
      refine seq_run0 (stp_assign (.dat _) rfl) ?_
      exact ⟨(r11.1, r11.2.L, r11.2.at_), H, ⟨rfl, trivial⟩, ⟨rfl, trivial⟩⟩
    · replace H := iff_ h8 H
      refine awp_skip ?_
      exact ⟨(r4.1, r6.2.L, r6.2.at_), H, ⟨rfl, trivial⟩, ⟨rfl, trivial⟩⟩
  · rintro ⟨q13, c14, c15⟩ H
    replace H : gatemake_Stream_QueryName_J1 q13 c14 c15 = some r := H
    unfold gatemake_Stream_QueryName_J1 at H
    refine awp_seq ?_
    refine awp_plain hN rfl ?_
    refine seq_run0 (stp_move (.dat _) rfl) ?_
    refine seq_run0 (stp_assign (.dat _) rfl) ?_
    refine awp_ret ?_
    cases H
    exact ⟨trivial, ⟨.inl rfl, trivial⟩, rfl⟩
theorem k_gatemake_Stream_CacheRequest (s1 : S_gatemake_Stream) (v2 : Int) (r : (S_api_Request × S_gatemake_Stream)) (H : m_gatemake_Stream_CacheRequest s1 v2 = some r) : Imp Tryz.prog 6 25 (C_gatemake_Stream s1) [vint v2] (resOf [vagg (C_api_Request r.1)]) (C_gatemake_Stream r.2) := by
  refine imp_of (us := [vagg (C_api_Request r.1)]) (cs' := (C_gatemake_Stream r.2)) (by kernel_rfl) Tryz.func6 rfl rfl rfl rfl fun X bl hN => ?_
  unfold m_gatemake_Stream_CacheRequest at H
  refine awp_seq ?_
  refine awp_plain hN rfl ?_
  refine seq_run2 (stp_alloc 1 tyZ30 rfl) rfl ?_
  refine awp_seq ?_
  refine awp_plain hN rfl ?_
  refine seq_run0 (stp_move (.dat _) rfl) ?_
  refine seq_run0 (stp_move (.ptr _ _) rfl) ?_
  refine seq_run0 (stp_dat (u' := vlst (List.map C_string [[71, 69, 84], [71, 69, 84], [71, 69, 84], [71, 69, 84], [72, 69, 65, 68], [80, 79, 83, 84]])) (stp_lit [[_], [_], [_], [_], [_], [_]] tyL48 ⟨rfl, .inl ⟨_, rfl, rfl, rfl⟩, rfl, rfl, .inl ⟨_, rfl, rfl, rfl⟩, rfl, rfl, .inl ⟨_, rfl, rfl, rfl⟩, rfl, rfl, .inl ⟨_, rfl, rfl, rfl⟩, rfl, rfl, .inl ⟨_, rfl, rfl, rfl⟩, rfl, rfl, .inl ⟨_, rfl, rfl, rfl⟩, rfl, trivial⟩ rfl rfl) rfl) ?_
  obtain ⟨r3, h4, H⟩ := bnd H
  refine seq_run2 (stp_imp (k_gatemake_Stream_Some s1 ([[71, 69, 84], [71, 69, 84], [71, 69, 84], [71, 69, 84], [72, 69, 65, 68], [80, 79, 83, 84]]) r3 h4) rfl ⟨.inl rfl, trivial⟩ rfl) rfl ?_
  refine seq_run0 (stp_move (.ptr _ _) rfl) ?_
  refine seq_run0 (stp_dat (u' := vlst (List.map C_string [[97, 46, 98], [97, 46, 98], [65, 46, 66, 58, 56, 48], [99, 46, 100]])) (stp_lit [[_], [_], [_], [_]] tyL48 ⟨rfl, .inl ⟨_, rfl, rfl, rfl⟩, rfl, rfl, .inl ⟨_, rfl, rfl, rfl⟩, rfl, rfl, .inl ⟨_, rfl, rfl, rfl⟩, rfl, rfl, .inl ⟨_, rfl, rfl, rfl⟩, rfl, trivial⟩ rfl rfl) rfl) ?_
  obtain ⟨r5, h6, H⟩ := bnd H
  refine seq_run2 (stp_imp (k_gatemake_Stream_Some r3.2 ([[97, 46, 98], [97, 46, 98], [65, 46, 66, 58, 56, 48], [99, 46, 100]]) r5 h6) rfl ⟨.inl rfl, trivial⟩ rfl) rfl ?_
  refine seq_run0 (stp_move (.ptr _ _) rfl) ?_
  refine seq_run0 (stp_dat (u' := vlst (List.map C_string [[47, 120], [47, 120], [47, 120, 47, 46, 47], [47, 37, 55, 56], [47, 121]])) (stp_lit [[_], [_], [_], [_], [_]] tyL48 ⟨rfl, .inl ⟨_, rfl, rfl, rfl⟩, rfl, rfl, .inl ⟨_, rfl, rfl, rfl⟩, rfl, rfl, .inl ⟨_, rfl, rfl, rfl⟩, rfl, rfl, .inl ⟨_, rfl, rfl, rfl⟩, rfl, rfl, .inl ⟨_, rfl, rfl, rfl⟩, rfl, trivial⟩ rfl rfl) rfl) ?_
  obtain ⟨r7, h8, H⟩ := bnd H
  refine seq_run2 (stp_imp (k_gatemake_Stream_Some r5.2 ([[47, 120], [47, 120], [47, 120, 47, 46, 47], [47, 37, 55, 56], [47, 121]]) r7 h8) rfl ⟨.inl rfl, trivial⟩ rfl) rfl ?_
  refine seq_run0 (stp_move (.ptr _ _) rfl) ?_
  refine seq_run0 (stp_dat (u' := vlst (List.map C_string [[], [], [98, 61, 50, 38, 97, 61, 49], [97, 61, 49, 38, 98, 61, 50]])) (stp_lit [[_], [_], [_], [_]] tyL48 ⟨rfl, .inl ⟨_, rfl, rfl, rfl⟩, rfl, rfl, .inl ⟨_, rfl, rfl, rfl⟩, rfl, rfl, .inl ⟨_, rfl, rfl, rfl⟩, rfl, rfl, .inl ⟨_, rfl, rfl, rfl⟩, rfl, trivial⟩ rfl rfl) rfl) ?_
  obtain ⟨r9, h10, H⟩ := bnd H
  refine seq_run2 (stp_imp (k_gatemake_Stream_Some r7.2 ([[], [], [98, 61, 50, 38, 97, 61, 49], [97, 61, 49, 38, 98, 61, 50]]) r9 h10) rfl ⟨.inl rfl, trivial⟩ rfl) rfl ?_
  refine seq_run0 (stp_dat (u' := vagg [vint v2, vstr r3.1, vstr r5.1, vstr r7.1, vstr r9.1, vstr [], vnil, vstr []]) (stp_build [(0, [vint v2]), (1, [vstr r3.1]), (2, [vstr r5.1]), (3, [vstr r7.1]), (4, [vstr r9.1])] tyZ30 tyP30 rfl ⟨rfl, .inl ⟨_, rfl, rfl, rfl⟩, rfl, rfl, .inl ⟨_, rfl, rfl, rfl⟩, rfl, rfl, .inl ⟨_, rfl, rfl, rfl⟩, rfl, rfl, .inl ⟨_, rfl, rfl, rfl⟩, rfl, rfl, .inl ⟨_, rfl, rfl, rfl⟩, rfl, trivial⟩) rfl) ?_
  refine seq_run2 (stp_alloc 2 tyZ30 rfl) rfl ?_
  refine seq_run2 (stp_storeW tyS30 rfl rfl rfl rfl) rfl ?_
  refine awp_nilrowB 2 6 3 51 2 rfl rfl rfl rfl ?_
  refine awp_joinE (ι := (List Int) × Int × (List S_api_Header)) (fun i => [(0, .ptr 0 0), (4, .ptr 1 0), (5, .ptr 2 0)]) (fun i => [(0, .box (some bl) 25 [.dat (vlst (List.map C_int i.1)), .dat (vint i.2.1)]), (1, .box none 30 [.dat (vint 0), .dat (vstr []), .dat (vstr []), .dat (vstr []), .dat (vstr []), .dat (vstr []), .dat (vnil), .dat (vstr [])]), (2, .box none 30 [.dat (vint v2), .dat (vstr r3.1), .dat (vstr r5.1), .dat (vstr r7.1), .dat (vstr r9.1), .dat (vstr []), .row 3 i.2.2.length, .dat (vstr [])]), (3, .row 51 2 (List.map C_api_Header i.2.2))]) (fun i => gatemake_Stream_CacheRequest_J1 v2 r3 r5 r7 r9 i.1 i.2.1 i.2.2 = some r) (fun i => rfl) ?_ ?_
  · refine awp_cv ?_
    refine awp_seq ?_
    refine awp_plain hN rfl ?_
    refine seq_run0 (stp_move (.ptr _ _) rfl) ?_
    obtain ⟨r11, h12, H⟩ := bnd H
    refine seq_run2 (stp_imp (k_gatemake_Stream_Flip r9.2 3 r11 h12) rfl ⟨.inl rfl, trivial⟩ rfl) rfl ?_
    refine awp_cond _ rfl (fun h13 => ?_) (fun h13 => ?_)
    · replace H := ift h13 H
      refine awp_draw mixed hN rfl rfl ?_
      refine seq_run0 (stp_fldP tyF30_6 rfl) ?_
      refine seq_run1 (stp_load1 tyS28 rfl rfl) rfl ?_
      refine seq_run0 (stp_move (.ptr _ _) rfl) ?_
      refine seq_run0 (stp_dat (u' := vlst (List.map C_string [[97, 99, 99, 101, 112, 116, 45, 108, 97, 110, 103, 117, 97, 103, 101], [65, 99, 99, 101, 112, 116, 45, 76, 97, 110, 103, 117, 97, 103, 101]])) (stp_lit [[_], [_]] tyL48 ⟨rfl, .inl ⟨_, rfl, rfl, rfl⟩, rfl, rfl, .inl ⟨_, rfl, rfl, rfl⟩, rfl, trivial⟩ rfl rfl) rfl) ?_
      obtain ⟨r14, h15, H⟩ := bnd H
      refine seq_run2 (stp_imp (k_gatemake_Stream_Some r11.2 ([[97, 99, 99, 101, 112, 116, 45, 108, 97, 110, 103, 117, 97, 103, 101], [65, 99, 99, 101, 112, 116, 45, 76, 97, 110, 103, 117, 97, 103, 101]]) r14 h15) rfl ⟨.inl rfl, trivial⟩ rfl) rfl ?_
      refine seq_run0 (stp_move (.ptr _ _) rfl) ?_
      refine seq_run0 (stp_dat (u' := vlst (List.map C_string [[100, 101], [101, 110]])) (stp_lit [[_], [_]] tyL48 ⟨rfl, .inl ⟨_, rfl, rfl, rfl⟩, rfl, rfl, .inl ⟨_, rfl, rfl, rfl⟩, rfl, trivial⟩ rfl rfl) rfl) ?_
      obtain ⟨r16, h17, H⟩ := bnd H
      refine seq_run2 (stp_imp (k_gatemake_Stream_Some r14.2 ([[100, 101], [101, 110]]) r16 h17) rfl ⟨.inl rfl, trivial⟩ rfl) rfl ?_
      refine seq_run0 (stp_dat (u' := vagg (C_api_Header (S_api_Header.mk r14.1 r16.1))) (stp_build [(0, [vstr r14.1]), (1, [vstr r16.1])] tyZ51 tyP51 rfl ⟨rfl, .inl ⟨_, rfl, rfl, rfl⟩, rfl, rfl, .inl ⟨_, rfl, rfl, rfl⟩, rfl, trivial⟩) rfl) ?_
      refine seq_run0 (stp_dat (u' := vlst (List.map C_api_Header [(S_api_Header.mk r14.1 r16.1)])) (stp_lit [_] tyL28 ⟨rfl, .inr rfl, rfl, trivial⟩ rfl rfl) rfl) ?_
      obtain ⟨h18, H⟩ := gif H
      refine seq_run2 (t_app (C := C_api_Header) (xs := ([] : List S_api_Header)) tyL28 (fun _ => rfl) rfl rfl rfl ⟨by simp, by first | (simp; done) | simpa using h18⟩ rfl) rfl ?_
      refine seq_run0 (stp_fldP tyF30_6 rfl) ?_
      refine seq_run4 (stp_storeS tyS28 rfl rfl (by rw [List.length_map]) rfl) rfl rfl ?_
      refine ⟨rfl, ?_⟩
      show Cv _ _ _ _
      refine cv_in ?_
      exact ⟨(r16.2.L, r16.2.at_, (([] : List S_api_Header) ++ [(S_api_Header.mk r14.1 r16.1)])), H, ⟨rfl, rfl, rfl, trivial⟩, ⟨rfl, rfl, rfl, rfl, trivial⟩⟩
    · replace H := iff_ h13 H
      refine awp_skip ?_
      show Cv _ _ _ _
      refine cv_in ?_
      exact ⟨(r11.2.L, r11.2.at_, ([] : List S_api_Header)), H, ⟨rfl, rfl, rfl, trivial⟩, ⟨rfl, rfl, rfl, rfl, trivial⟩⟩
  · rintro ⟨c19, c20, l21⟩ H
    replace H : gatemake_Stream_CacheRequest_J1 v2 r3 r5 r7 r9 c19 c20 l21 = some r := H
    unfold gatemake_Stream_CacheRequest_J1 at H
    refine awp_joinE (ι := (List Int) × Int × (List S_api_Header)) (fun i => [(0, .ptr 0 0), (4, .ptr 1 0), (5, .ptr 2 0)]) (fun i => [(0, .box (some bl) 25 [.dat (vlst (List.map C_int i.1)), .dat (vint i.2.1)]), (1, .box none 30 [.dat (vint 0), .dat (vstr []), .dat (vstr []), .dat (vstr []), .dat (vstr []), .dat (vstr []), .dat (vnil), .dat (vstr [])]), (2, .box none 30 [.dat (vint v2), .dat (vstr r3.1), .dat (vstr r5.1), .dat (vstr r7.1), .dat (vstr r9.1), .dat (vstr []), .row 3 i.2.2.length, .dat (vstr [])]), (3, .row 51 2 (List.map C_api_Header i.2.2))]) (fun i => gatemake_Stream_CacheRequest_J2 v2 r3 r5 r7 r9 i.1 i.2.1 i.2.2 = some r) (fun i => rfl) ?_ ?_
    · refine awp_cv ?_
      refine awp_seq ?_
      refine awp_plain hN rfl ?_
      refine seq_run0 (stp_move (.ptr _ _) rfl) ?_
      obtain ⟨r22, h23, H⟩ := bnd H
      refine seq_run2 (stp_imp (k_gatemake_Stream_Flip (S_gatemake_Stream.mk c19 c20) 4 r22 h23) rfl ⟨.inl rfl, trivial⟩ rfl) rfl ?_
      refine awp_cond _ rfl (fun h24 => ?_) (fun h24 => ?_)
      · replace H := ift h24 H
        refine awp_draw mixed hN rfl rfl ?_
        refine seq_run0 (stp_fldP tyF30_6 rfl) ?_
        refine seq_run1 (stp_load1 tyS28 rfl rfl) rfl ?_
        refine seq_run0 (stp_move (.ptr _ _) rfl) ?_
        obtain ⟨r25, h26, H⟩ := bnd H
        refine seq_run2 (stp_imp (k_gatemake_Stream_AskValue r22.2 r25 h26) rfl trivial rfl) rfl ?_
        refine seq_run0 (stp_dat (u' := vagg (C_api_Header (S_api_Header.mk [99, 97, 99, 104, 101, 45, 99, 111, 110, 116, 114, 111, 108] r25.1))) (stp_build [(0, [vstr [99, 97, 99, 104, 101, 45, 99, 111, 110, 116, 114, 111, 108]]), (1, [vstr r25.1])] tyZ51 tyP51 rfl ⟨rfl, .inl ⟨_, rfl, rfl, rfl⟩, rfl, rfl, .inl ⟨_, rfl, rfl, rfl⟩, rfl, trivial⟩) rfl) ?_
        refine seq_run0 (stp_dat (u' := vlst (List.map C_api_Header [(S_api_Header.mk [99, 97, 99, 104, 101, 45, 99, 111, 110, 116, 114, 111, 108] r25.1)])) (stp_lit [_] tyL28 ⟨rfl, .inr rfl, rfl, trivial⟩ rfl rfl) rfl) ?_
        obtain ⟨h27, H⟩ := gif H
        refine seq_run2 (t_app tyL28 (fun _ => rfl) rfl rfl rfl ⟨by simp, by first | (simp; done) | simpa using h27⟩ rfl) rfl ?_
        refine seq_run0 (stp_fldP tyF30_6 rfl) ?_
        refine seq_run4 (stp_storeS tyS28 rfl rfl (by rw [List.length_map]) rfl) rfl rfl ?_
        refine ⟨rfl, ?_⟩
        show Cv _ _ _ _
        refine cv_in ?_
        exact ⟨(r25.2.L, r25.2.at_, (l21 ++ ([(S_api_Header.mk [99, 97, 99, 104, 101, 45, 99, 111, 110, 116, 114, 111, 108] r25.1)]))), H, ⟨rfl, rfl, rfl, trivial⟩, ⟨rfl, rfl, rfl, rfl, trivial⟩⟩
      · replace H := iff_ h24 H
        refine awp_skip ?_
        show Cv _ _ _ _
        refine cv_in ?_
        exact ⟨(r22.2.L, r22.2.at_, l21), H, ⟨rfl, rfl, rfl, trivial⟩, ⟨rfl, rfl, rfl, rfl, trivial⟩⟩
    · rintro ⟨c28, c29, l30⟩ H
      replace H : gatemake_Stream_CacheRequest_J2 v2 r3 r5 r7 r9 c28 c29 l30 = some r := H
      unfold gatemake_Stream_CacheRequest_J2 at H
      refine awp_joinE (ι := (List Int) × Int × (List S_api_Header)) (fun i => [(0, .ptr 0 0), (4, .ptr 1 0), (5, .ptr 2 0)]) (fun i => [(0, .box (some bl) 25 [.dat (vlst (List.map C_int i.1)), .dat (vint i.2.1)]), (1, .box none 30 [.dat (vint 0), .dat (vstr []), .dat (vstr []), .dat (vstr []), .dat (vstr []), .dat (vstr []), .dat (vnil), .dat (vstr [])]), (2, .box none 30 [.dat (vint v2), .dat (vstr r3.1), .dat (vstr r5.1), .dat (vstr r7.1), .dat (vstr r9.1), .dat (vstr []), .row 3 i.2.2.length, .dat (vstr [])]), (3, .row 51 2 (List.map C_api_Header i.2.2))]) (fun i => gatemake_Stream_CacheRequest_J3 v2 r3 r5 r7 r9 i.1 i.2.1 i.2.2 = some r) (fun i => rfl) ?_ ?_
      · refine awp_cv ?_
        refine awp_seq ?_
        refine awp_plain hN rfl ?_
        refine seq_run0 (stp_move (.ptr _ _) rfl) ?_
        obtain ⟨r31, h32, H⟩ := bnd H
        refine seq_run2 (stp_imp (k_gatemake_Stream_Flip (S_gatemake_Stream.mk c28 c29) 12 r31 h32) rfl ⟨.inl rfl, trivial⟩ rfl) rfl ?_
        refine awp_cond _ rfl (fun h33 => ?_) (fun h33 => ?_)
        · replace H := ift h33 H
          refine awp_plain hN rfl ?_
          refine seq_run0 (stp_fldP tyF30_6 rfl) ?_
          refine seq_run1 (stp_load1 tyS28 rfl rfl) rfl ?_
          refine seq_run0 (stp_dat (u' := vagg (C_api_Header (S_api_Header.mk [97, 117, 116, 104, 111, 114, 105, 122, 97, 116, 105, 111, 110] [66, 101, 97, 114, 101, 114, 32, 120]))) (stp_build [(0, [vstr [97, 117, 116, 104, 111, 114, 105, 122, 97, 116, 105, 111, 110]]), (1, [vstr [66, 101, 97, 114, 101, 114, 32, 120]])] tyZ51 tyP51 rfl ⟨rfl, .inl ⟨_, rfl, rfl, rfl⟩, rfl, rfl, .inl ⟨_, rfl, rfl, rfl⟩, rfl, trivial⟩) rfl) ?_
          refine seq_run0 (stp_dat (u' := vlst (List.map C_api_Header [(S_api_Header.mk [97, 117, 116, 104, 111, 114, 105, 122, 97, 116, 105, 111, 110] [66, 101, 97, 114, 101, 114, 32, 120])])) (stp_lit [_] tyL28 ⟨rfl, .inr rfl, rfl, trivial⟩ rfl rfl) rfl) ?_
          obtain ⟨h34, H⟩ := gif H
          refine seq_run2 (t_app tyL28 (fun _ => rfl) rfl rfl rfl ⟨by simp, by first | (simp; done) | simpa using h34⟩ rfl) rfl ?_
          refine seq_run0 (stp_fldP tyF30_6 rfl) ?_
          refine seq_run4 (stp_storeS tyS28 rfl rfl (by rw [List.length_map]) rfl) rfl rfl ?_
          refine seq_end ?_
          show Cv _ _ _ _
          refine cv_in ?_
          exact ⟨(r31.2.L, r31.2.at_, (l30 ++ ([(S_api_Header.mk [97, 117, 116, 104, 111, 114, 105, 122, 97, 116, 105, 111, 110] [66, 101, 97, 114, 101, 114, 32, 120])]))), H, ⟨rfl, rfl, rfl, trivial⟩, ⟨rfl, rfl, rfl, rfl, trivial⟩⟩
        · replace H := iff_ h33 H
          refine awp_skip ?_
          show Cv _ _ _ _
          refine cv_in ?_
          exact ⟨(r31.2.L, r31.2.at_, l30), H, ⟨rfl, rfl, rfl, trivial⟩, ⟨rfl, rfl, rfl, rfl, trivial⟩⟩
      · rintro ⟨c35, c36, l37⟩ H
        replace H : gatemake_Stream_CacheRequest_J3 v2 r3 r5 r7 r9 c35 c36 l37 = some r := H
        unfold gatemake_Stream_CacheRequest_J3 at H
        refine awp_joinE (ι := (List Int) × Int × (List S_api_Header)) (fun i => [(0, .ptr 0 0), (4, .ptr 1 0), (5, .ptr 2 0)]) (fun i => [(0, .box (some bl) 25 [.dat (vlst (List.map C_int i.1)), .dat (vint i.2.1)]), (1, .box none 30 [.dat (vint 0), .dat (vstr []), .dat (vstr []), .dat (vstr []), .dat (vstr []), .dat (vstr []), .dat (vnil), .dat (vstr [])]), (2, .box none 30 [.dat (vint v2), .dat (vstr r3.1), .dat (vstr r5.1), .dat (vstr r7.1), .dat (vstr r9.1), .dat (vstr []), .row 3 i.2.2.length, .dat (vstr [])]), (3, .row 51 2 (List.map C_api_Header i.2.2))]) (fun i => gatemake_Stream_CacheRequest_J4 v2 r3 r5 r7 r9 i.1 i.2.1 i.2.2 = some r) (fun i => rfl) ?_ ?_
        · refine awp_cv ?_
          refine awp_seq ?_
          refine awp_plain hN rfl ?_
          refine seq_run0 (stp_move (.ptr _ _) rfl) ?_
          obtain ⟨r38, h39, H⟩ := bnd H
          refine seq_run2 (stp_imp (k_gatemake_Stream_Flip (S_gatemake_Stream.mk c35 c36) 8 r38 h39) rfl ⟨.inl rfl, trivial⟩ rfl) rfl ?_
          refine awp_cond _ rfl (fun h40 => ?_) (fun h40 => ?_)
          · replace H := ift h40 H
            refine awp_draw mixed hN rfl rfl ?_
            refine seq_run0 (stp_fldP tyF30_6 rfl) ?_
            refine seq_run1 (stp_load1 tyS28 rfl rfl) rfl ?_
            refine seq_run0 (stp_move (.ptr _ _) rfl) ?_
            refine seq_run0 (stp_dat (u' := vlst (List.map C_string [[34, 118, 49, 34], [87, 47, 34, 118, 50, 34, 44, 32, 34, 118, 49, 34], [42], [118, 49]])) (stp_lit [[_], [_], [_], [_]] tyL48 ⟨rfl, .inl ⟨_, rfl, rfl, rfl⟩, rfl, rfl, .inl ⟨_, rfl, rfl, rfl⟩, rfl, rfl, .inl ⟨_, rfl, rfl, rfl⟩, rfl, rfl, .inl ⟨_, rfl, rfl, rfl⟩, rfl, trivial⟩ rfl rfl) rfl) ?_
            obtain ⟨r41, h42, H⟩ := bnd H
            refine seq_run2 (stp_imp (k_gatemake_Stream_Some r38.2 ([[34, 118, 49, 34], [87, 47, 34, 118, 50, 34, 44, 32, 34, 118, 49, 34], [42], [118, 49]]) r41 h42) rfl ⟨.inl rfl, trivial⟩ rfl) rfl ?_
            refine seq_run0 (stp_dat (u' := vagg (C_api_Header (S_api_Header.mk [105, 102, 45, 110, 111, 110, 101, 45, 109, 97, 116, 99, 104] r41.1))) (stp_build [(0, [vstr [105, 102, 45, 110, 111, 110, 101, 45, 109, 97, 116, 99, 104]]), (1, [vstr r41.1])] tyZ51 tyP51 rfl ⟨rfl, .inl ⟨_, rfl, rfl, rfl⟩, rfl, rfl, .inl ⟨_, rfl, rfl, rfl⟩, rfl, trivial⟩) rfl) ?_
            refine seq_run0 (stp_dat (u' := vlst (List.map C_api_Header [(S_api_Header.mk [105, 102, 45, 110, 111, 110, 101, 45, 109, 97, 116, 99, 104] r41.1)])) (stp_lit [_] tyL28 ⟨rfl, .inr rfl, rfl, trivial⟩ rfl rfl) rfl) ?_
            obtain ⟨h43, H⟩ := gif H
            refine seq_run2 (t_app tyL28 (fun _ => rfl) rfl rfl rfl ⟨by simp, by first | (simp; done) | simpa using h43⟩ rfl) rfl ?_
            refine seq_run0 (stp_fldP tyF30_6 rfl) ?_
            refine seq_run4 (stp_storeS tyS28 rfl rfl (by rw [List.length_map]) rfl) rfl rfl ?_
            refine ⟨rfl, ?_⟩
            show Cv _ _ _ _
            refine cv_in ?_
            exact ⟨(r41.2.L, r41.2.at_, (l37 ++ ([(S_api_Header.mk [105, 102, 45, 110, 111, 110, 101, 45, 109, 97, 116, 99, 104] r41.1)]))), H, ⟨rfl, rfl, rfl, trivial⟩, ⟨rfl, rfl, rfl, rfl, trivial⟩⟩
          · replace H := iff_ h40 H
            refine awp_skip ?_
            show Cv _ _ _ _
            refine cv_in ?_
            exact ⟨(r38.2.L, r38.2.at_, l37), H, ⟨rfl, rfl, rfl, trivial⟩, ⟨rfl, rfl, rfl, rfl, trivial⟩⟩
        · rintro ⟨c44, c45, l46⟩ H
          replace H : gatemake_Stream_CacheRequest_J4 v2 r3 r5 r7 r9 c44 c45 l46 = some r := H
          unfold gatemake_Stream_CacheRequest_J4 at H
          refine awp_joinE (ι := (List Int) × Int × Bs × Bs) (fun i => [(4, .ptr 1 0), (5, .ptr 2 0)]) (fun i => [(0, .box (some bl) 25 [.dat (vlst (List.map C_int i.1)), .dat (vint i.2.1)]), (1, .box none 30 [.dat (vint 0), .dat (vstr []), .dat (vstr []), .dat (vstr []), .dat (vstr []), .dat (vstr []), .dat (vnil), .dat (vstr [])]), (2, .box none 30 [.dat (vint v2), .dat (vstr r3.1), .dat (vstr r5.1), .dat (vstr i.2.2.1), .dat (vstr i.2.2.2), .dat (vstr []), .row 3 l46.length, .dat (vstr [])]), (3, .row 51 2 (List.map C_api_Header l46))]) (fun i => gatemake_Stream_CacheRequest_J5 v2 r3 r5 l46 i.1 i.2.1 i.2.2.1 i.2.2.2 = some r) (fun i => rfl) ?_ ?_
          · refine awp_cv ?_
            refine awp_seq ?_
            refine awp_plain hN rfl ?_
            refine seq_run0 (stp_move (.ptr _ _) rfl) ?_
            obtain ⟨r47, h48, H⟩ := bnd H
            refine seq_run2 (stp_imp (k_gatemake_Stream_Flip (S_gatemake_Stream.mk c44 c45) 40 r47 h48) rfl ⟨.inl rfl, trivial⟩ rfl) rfl ?_
            refine awp_cond _ rfl (fun h49 => ?_) (fun h49 => ?_)
            · replace H := ift h49 H
              refine awp_plain hN rfl ?_
              refine seq_run0 (stp_move (.ptr _ _) rfl) ?_
              obtain ⟨r50, h51, H⟩ := bnd H
              refine seq_run2 (stp_imp (k_gatemake_Stream_PathName r47.2 r50 h51) rfl trivial rfl) rfl ?_
              refine seq_run0 (stp_move (.ptr _ _) rfl) ?_
              obtain ⟨r52, h53, H⟩ := bnd H
              refine seq_run2 (stp_imp (k_gatemake_Stream_QueryName r50.2 r52 h53) rfl trivial rfl) rfl ?_
              refine seq_run0 (stp_fldP tyF30_3 rfl) ?_
              refine seq_run2 (stp_store1 tyS9 rfl rfl rfl rfl) rfl ?_
              refine seq_run0 (stp_fldP tyF30_4 rfl) ?_
              refine seq_run2 (stp_store1 tyS9 rfl rfl rfl rfl) rfl ?_
              refine seq_end ?_
              show Cv _ _ _ _
              refine cv_in ?_
              exact ⟨(r52.2.L, r52.2.at_, r50.1, r52.1), H, ⟨rfl, rfl, trivial⟩, ⟨rfl, rfl, rfl, rfl, trivial⟩⟩
            · replace H := iff_ h49 H
              refine awp_skip ?_
              show Cv _ _ _ _
              refine cv_in ?_
              exact ⟨(r47.2.L, r47.2.at_, r7.1, r9.1), H, ⟨rfl, rfl, trivial⟩, ⟨rfl, rfl, rfl, rfl, trivial⟩⟩
          · rintro ⟨c54, c55, c56, c57⟩ H
            replace H : gatemake_Stream_CacheRequest_J5 v2 r3 r5 l46 c54 c55 c56 c57 = some r := H
            unfold gatemake_Stream_CacheRequest_J5 at H
            refine awp_seq ?_
            refine awp_frzC 2 6 3 rfl rfl rfl (by rw [List.length_map]) ?_
            refine awp_plain hN rfl ?_
            refine seq_run1 (stp_loadA tyS30 rfl rfl rfl) rfl ?_
            refine seq_run2 (stp_storeW tyS30 rfl rfl rfl rfl) rfl ?_
            refine awp_ret ?_
            cases H
            exact ⟨trivial, ⟨.inl ⟨_, _, _, C_api_Request (S_api_Request.mk v2 r3.1 r5.1 c56 c57 [] l46 []), rfl, rfl, rfl, rfl, tyS30⟩, trivial⟩, rfl⟩
theorem k_gatemake_Stream_Pick (s1 : S_gatemake_Stream) (l2 : (List Int)) (r : (Int × S_gatemake_Stream)) (H : m_gatemake_Stream_Pick s1 l2 = some r) : Imp Tryz.prog 23 25 (C_gatemake_Stream s1) [vlst (List.map C_int l2)] (resOf [vint r.1]) (C_gatemake_Stream r.2) := by
  refine imp_of (us := [vint r.1]) (cs' := (C_gatemake_Stream r.2)) (by kernel_rfl) Tryz.func23 rfl rfl rfl rfl fun X bl hN => ?_
  unfold m_gatemake_Stream_Pick at H
  refine awp_seq ?_
  refine awp_plain hN rfl ?_
  refine seq_run0 (stp_assign (.dat _) rfl) ?_
  refine awp_seq ?_
  refine awp_plain hN rfl ?_
  refine seq_run0 (stp_move (.dat _) rfl) ?_
  refine seq_run0 (stp_move (.ptr _ _) rfl) ?_
  refine seq_run0 (stp_move (.dat _) rfl) ?_
  refine seq_run0 (t_len tyU22 rfl) ?_
  obtain ⟨r3, h4, H⟩ := bnd H
  refine seq_run2 (stp_imp (k_gatemake_Stream_Next s1 (l2.length : Int) r3 h4) rfl ⟨.inl rfl, trivial⟩ rfl) rfl ?_
  obtain ⟨x5, h6, H⟩ := bnd H
  refine seq_run0 (t_idxI tyE22 (fun _ => rfl) rfl rfl h6) ?_
  refine seq_run0 (stp_loadE1 tyS3 rfl (map_at (at_some h6).2) rfl) ?_
  refine seq_run0 (stp_assign (.dat _) rfl) ?_
  refine awp_ret ?_
  cases H
  exact ⟨trivial, ⟨.inl rfl, trivial⟩, rfl⟩
theorem k_gatemake_Stream_ControlValue (s1 : S_gatemake_Stream) (r : (Bs × S_gatemake_Stream)) (H : m_gatemake_Stream_ControlValue s1 = some r) : Imp Tryz.prog 26 25 (C_gatemake_Stream s1) [] (resOf [vstr r.1]) (C_gatemake_Stream r.2) := by
  refine imp_of (us := [vstr r.1]) (cs' := (C_gatemake_Stream r.2)) (by kernel_rfl) Tryz.func26 rfl rfl rfl rfl fun X bl hN => ?_
  unfold m_gatemake_Stream_ControlValue at H
  refine awp_seq ?_
  refine awp_plain hN rfl ?_
  refine seq_run0 (stp_assign (.dat _) rfl) ?_
  refine awp_seq ?_
  refine awp_plain hN rfl ?_
  refine seq_run0 (stp_move (.ptr _ _) rfl) ?_
  refine seq_run0 (stp_move (.ptr _ _) rfl) ?_
  obtain ⟨r2, h3, H⟩ := bnd H
  refine seq_run2 (stp_imp (k_gatemake_Stream_Range s1 0 3 r2 h3) rfl ⟨.inl rfl, .inl rfl, trivial⟩ rfl) rfl ?_
  refine seq_run0 (stp_dat (u' := vlst (List.map C_string [[109, 97, 120, 45, 97, 103, 101, 61, 54, 48], [109, 97, 120, 45, 97, 103, 101, 61, 54, 48], [109, 97, 120, 45, 97, 103, 101, 61, 48], [109, 97, 120, 45, 97, 103, 101, 61, 49, 48], [115, 45, 109, 97, 120, 97, 103, 101, 61, 51, 48], [110, 111, 45, 99, 97, 99, 104, 101], [112, 117, 98, 108, 105, 99], [109, 117, 115, 116, 45, 114, 101, 118, 97, 108, 105, 100, 97, 116, 101], [115, 116, 97, 108, 101, 45, 119, 104, 105, 108, 101, 45, 114, 101, 118, 97, 108, 105, 100, 97, 116, 101, 61, 50, 48], [115, 116, 97, 108, 101, 45, 105, 102, 45, 101, 114, 114, 111, 114, 61, 49, 48, 48], [120, 61, 49], [121], [77, 97, 120, 45, 65, 103, 101, 61, 57, 48]])) (stp_lit [[_], [_], [_], [_], [_], [_], [_], [_], [_], [_], [_], [_], [_]] tyL48 ⟨rfl, .inl ⟨_, rfl, rfl, rfl⟩, rfl, rfl, .inl ⟨_, rfl, rfl, rfl⟩, rfl, rfl, .inl ⟨_, rfl, rfl, rfl⟩, rfl, rfl, .inl ⟨_, rfl, rfl, rfl⟩, rfl, rfl, .inl ⟨_, rfl, rfl, rfl⟩, rfl, rfl, .inl ⟨_, rfl, rfl, rfl⟩, rfl, rfl, .inl ⟨_, rfl, rfl, rfl⟩, rfl, rfl, .inl ⟨_, rfl, rfl, rfl⟩, rfl, rfl, .inl ⟨_, rfl, rfl, rfl⟩, rfl, rfl, .inl ⟨_, rfl, rfl, rfl⟩, rfl, rfl, .inl ⟨_, rfl, rfl, rfl⟩, rfl, rfl, .inl ⟨_, rfl, rfl, rfl⟩, rfl, rfl, .inl ⟨_, rfl, rfl, rfl⟩, rfl, trivial⟩ rfl rfl) rfl) ?_
  obtain ⟨r4, h5, H⟩ := bnd H
  refine seq_run2 (stp_imp (k_gatemake_Stream_Words r2.2 r2.1 [44, 32] ([[109, 97, 120, 45, 97, 103, 101, 61, 54, 48], [109, 97, 120, 45, 97, 103, 101, 61, 54, 48], [109, 97, 120, 45, 97, 103, 101, 61, 48], [109, 97, 120, 45, 97, 103, 101, 61, 49, 48], [115, 45, 109, 97, 120, 97, 103, 101, 61, 51, 48], [110, 111, 45, 99, 97, 99, 104, 101], [112, 117, 98, 108, 105, 99], [109, 117, 115, 116, 45, 114, 101, 118, 97, 108, 105, 100, 97, 116, 101], [115, 116, 97, 108, 101, 45, 119, 104, 105, 108, 101, 45, 114, 101, 118, 97, 108, 105, 100, 97, 116, 101, 61, 50, 48], [115, 116, 97, 108, 101, 45, 105, 102, 45, 101, 114, 114, 111, 114, 61, 49, 48, 48], [120, 61, 49], [121], [77, 97, 120, 45, 65, 103, 101, 61, 57, 48]]) r4 h5) rfl ⟨.inl rfl, .inl rfl, .inl rfl, trivial⟩ rfl) rfl ?_
  refine seq_run0 (stp_assign (.dat _) rfl) ?_
  refine awp_joinE (ι := Bs × (List Int) × Int) (fun i => [(0, .ptr 0 0), (3, .dat (vstr i.1))]) (fun i => [(0, .box (some bl) 25 [.dat (vlst (List.map C_int i.2.1)), .dat (vint i.2.2)])]) (fun i => gatemake_Stream_ControlValue_J1 i.1 i.2.1 i.2.2 = some r) (fun i => rfl) ?_ ?_
  · skip
    refine awp_seq ?_
    refine awp_plain hN rfl ?_
    refine seq_run0 (stp_move (.ptr _ _) rfl) ?_
    obtain ⟨r6, h7, H⟩ := bnd H
    refine seq_run2 (stp_imp (k_gatemake_Stream_Flip r4.2 10 r6 h7) rfl ⟨.inl rfl, trivial⟩ rfl) rfl ?_
    refine awp_cond _ rfl (fun h8 => ?_) (fun h8 => ?_)
    · replace H := ift h8 H
      refine awp_plain hN rfl ?_
      refine seq_run0 (stp_move (.ptr _ _) rfl) ?_
      refine seq_run0 (stp_dat (u' := vlst (List.map C_string [[110, 111, 45, 115, 116, 111, 114, 101], [112, 114, 105, 118, 97, 116, 101], [109, 97, 120, 45, 97, 103, 101, 61, 54, 48], [111, 110, 108, 121, 45, 105, 102, 45, 99, 97, 99, 104, 101, 100], [105, 109, 109, 117, 116, 97, 98, 108, 101]])) (stp_lit [[_], [_], [_], [_], [_]] tyL48 ⟨rfl, .inl ⟨_, rfl, rfl, rfl⟩, rfl, rfl, .inl ⟨_, rfl, rfl, rfl⟩, rfl, rfl, .inl ⟨_, rfl, rfl, rfl⟩, rfl, rfl, .inl ⟨_, rfl, rfl, rfl⟩, rfl, rfl, .inl ⟨_, rfl, rfl, rfl⟩, rfl, trivial⟩ rfl rfl) rfl) ?_
      obtain ⟨r9, h10, H⟩ := bnd H
      refine seq_run2 (stp_imp (k_gatemake_Stream_Words r6.2 2 [44] ([[110, 111, 45, 115, 116, 111, 114, 101], [112, 114, 105, 118, 97, 116, 101], [109, 97, 120, 45, 97, 103, 101, 61, 54, 48], [111, 110, 108, 121, 45, 105, 102, 45, 99, 97, 99, 104, 101, 100], [105, 109, 109, 117, 116, 97, 98, 108, 101]]) r9 h10) rfl ⟨.inl rfl, .inl rfl, .inl rfl, trivial⟩ rfl) rfl ?_
      refine seq_run0 (stp_assign (.dat _) rfl) ?_
      exact ⟨(r9.1, r9.2.L, r9.2.at_), H, ⟨rfl, rfl, trivial⟩, ⟨rfl, trivial⟩⟩
    · replace H := iff_ h8 H
      refine awp_skip ?_
      exact ⟨(r4.1, r6.2.L, r6.2.at_), H, ⟨rfl, rfl, trivial⟩, ⟨rfl, trivial⟩⟩
  · rintro ⟨t11, c12, c13⟩ H
    replace H : gatemake_Stream_ControlValue_J1 t11 c12 c13 = some r := H
    unfold gatemake_Stream_ControlValue_J1 at H
    refine awp_joinE (ι := Bs × (List Int) × Int) (fun i => [(3, .dat (vstr i.1))]) (fun i => [(0, .box (some bl) 25 [.dat (vlst (List.map C_int i.2.1)), .dat (vint i.2.2)])]) (fun i => gatemake_Stream_ControlValue_J2 i.1 i.2.1 i.2.2 = some r) (fun i => rfl) ?_ ?_
    · skip
      refine awp_seq ?_
      refine awp_plain hN rfl ?_
      refine seq_run0 (stp_move (.ptr _ _) rfl) ?_
      obtain ⟨r14, h15, H⟩ := bnd H
      refine seq_run2 (stp_imp (k_gatemake_Stream_Flip (S_gatemake_Stream.mk c12 c13) 20 r14 h15) rfl ⟨.inl rfl, trivial⟩ rfl) rfl ?_
      refine awp_cond _ rfl (fun h16 => ?_) (fun h16 => ?_)
      · replace H := ift h16 H
        refine awp_plain hN rfl ?_
        refine seq_run0 (stp_move (.ptr _ _) rfl) ?_
        refine seq_run0 (stp_dat (u' := vlst (List.map C_string [[109, 97, 120, 45, 97, 103, 101], [110, 111, 45, 99, 97, 99, 104, 101, 61, 49], [109, 97, 120, 45, 97, 103, 101, 61, 45, 49], [109, 97, 120, 45, 97, 103, 101, 61, 48, 49], [109, 97, 120, 45, 97, 103, 101, 61, 49, 48, 48, 48, 48, 48, 48, 48, 49], [61, 49], [97, 32, 98], [109, 97, 120, 45, 97, 103, 101, 61, 54, 48, 32, 44, 32, 44, 32, 110, 111, 45, 99, 97, 99, 104, 101]])) (stp_lit [[_], [_], [_], [_], [_], [_], [_], [_]] tyL48 ⟨rfl, .inl ⟨_, rfl, rfl, rfl⟩, rfl, rfl, .inl ⟨_, rfl, rfl, rfl⟩, rfl, rfl, .inl ⟨_, rfl, rfl, rfl⟩, rfl, rfl, .inl ⟨_, rfl, rfl, rfl⟩, rfl, rfl, .inl ⟨_, rfl, rfl, rfl⟩, rfl, rfl, .inl ⟨_, rfl, rfl, rfl⟩, rfl, rfl, .inl ⟨_, rfl, rfl, rfl⟩, rfl, rfl, .inl ⟨_, rfl, rfl, rfl⟩, rfl, trivial⟩ rfl rfl) rfl) ?_
        obtain ⟨r17, h18, H⟩ := bnd H
        refine seq_run2 (stp_imp (k_gatemake_Stream_Some r14.2 ([[109, 97, 120, 45, 97, 103, 101], [110, 111, 45, 99, 97, 99, 104, 101, 61, 49], [109, 97, 120, 45, 97, 103, 101, 61, 45, 49], [109, 97, 120, 45, 97, 103, 101, 61, 48, 49], [109, 97, 120, 45, 97, 103, 101, 61, 49, 48, 48, 48, 48, 48, 48, 48, 49], [61, 49], [97, 32, 98], [109, 97, 120, 45, 97, 103, 101, 61, 54, 48, 32, 44, 32, 44, 32, 110, 111, 45, 99, 97, 99, 104, 101]]) r17 h18) rfl ⟨.inl rfl, trivial⟩ rfl) rfl ?_
        refine seq_run0 (stp_assign (.dat _) rfl) ?_
        exact ⟨(r17.1, r17.2.L, r17.2.at_), H, ⟨rfl, trivial⟩, ⟨rfl, trivial⟩⟩
      · replace H := iff_ h16 H
        refine awp_skip ?_
        exact ⟨(t11, r14.2.L, r14.2.at_), H, ⟨rfl, trivial⟩, ⟨rfl, trivial⟩⟩
    · rintro ⟨t19, c20, c21⟩ H
      replace H : gatemake_Stream_ControlValue_J2 t19 c20 c21 = some r := H
      unfold gatemake_Stream_ControlValue_J2 at H
      refine awp_seq ?_
      refine awp_plain hN rfl ?_
      refine seq_run0 (stp_move (.dat _) rfl) ?_
      refine seq_run0 (stp_assign (.dat _) rfl) ?_
      refine awp_ret ?_
      cases H
      exact ⟨trivial, ⟨.inl rfl, trivial⟩, rfl⟩
theorem kk_gatemake_Stream_CacheResponse_1 (name1 : Bs) (value2 : Bs) (c3 : S_api_Response) (r : (S_api_Response)) (H : m_gatemake_Stream_CacheResponse_1 name1 value2 c3 = some r) : FnG Tryz.prog 25 [.dat (vstr name1), .dat (vstr value2), .ptr 0 0] [(0, .box (some 0) 33 [.dat (vint c3.Status), .row 1 c3.Headers.length, .dat (vstr c3.Body)]), (1, .row 51 2 (List.map C_api_Header c3.Headers))] (.dat (resOf [])) [(0, .box (some 0) 33 [.dat (vint r.Status), .row 900 r.Headers.length, .dat (vstr r.Body)]), (900, .row 51 2 (List.map C_api_Header r.Headers))] := by
  refine fnG_of (by kernel_rfl) Tryz.func25 rfl rfl rfl rfl fun X A hN => ?_
  refine awp_cv ?_
  unfold m_gatemake_Stream_CacheResponse_1 at H
  refine awp_plain hN rfl ?_
  refine seq_run0 (stp_fldP tyF33_1 rfl) ?_
  refine seq_run1 (stp_load1 tyS28 rfl rfl) rfl ?_
  refine seq_run0 (stp_move (.dat _) rfl) ?_
  refine seq_run0 (stp_move (.dat _) rfl) ?_
  refine seq_run0 (stp_dat (u' := vagg (C_api_Header (S_api_Header.mk name1 value2))) (stp_build [(0, [vstr name1]), (1, [vstr value2])] tyZ51 tyP51 rfl ⟨rfl, .inl ⟨_, rfl, rfl, rfl⟩, rfl, rfl, .inl ⟨_, rfl, rfl, rfl⟩, rfl, trivial⟩) rfl) ?_
  refine seq_run0 (stp_dat (u' := vlst (List.map C_api_Header [(S_api_Header.mk name1 value2)])) (stp_lit [_] tyL28 ⟨rfl, .inr rfl, rfl, trivial⟩ rfl rfl) rfl) ?_
  obtain ⟨h4, H⟩ := gif H
  refine seq_run2 (t_app tyL28 (fun _ => rfl) rfl rfl rfl ⟨by simp, by first | (simp; done) | simpa using h4⟩ rfl) rfl ?_
  refine seq_run0 (stp_fldP tyF33_1 rfl) ?_
  refine seq_run4 (stp_storeS tyS28 rfl rfl (by rw [List.length_map]) rfl) rfl rfl ?_
  cases H
  show Cv _ _ _ _
  refine cv_ren (rn [(1, 900)]) [] [(0, .box (some (A.bl 0)) 33 [.dat (vint c3.Status), .row 1 ((c3.Headers ++ [(S_api_Header.mk name1 value2)]).length), .dat (vstr c3.Body)]), (1, .row 51 2 (List.map C_api_Header (c3.Headers ++ [(S_api_Header.mk name1 value2)])))] trivial ⟨rfl, rfl, trivial⟩ rfl rfl ?_
  exact ⟨trivial, [], trivial, ⟨rfl, rfl, trivial⟩, rfl, .inl ⟨[], trivial, rfl⟩⟩
theorem k_gatemake_Stream_Odd (s1 : S_gatemake_Stream) (low2 : Int) (high3 : Int) (r : (Int × S_gatemake_Stream)) (H : m_gatemake_Stream_Odd s1 low2 high3 = some r) : Imp Tryz.prog 27 25 (C_gatemake_Stream s1) [vint low2, vint high3] (resOf [vint r.1]) (C_gatemake_Stream r.2) := by
  refine imp_of (us := [vint r.1]) (cs' := (C_gatemake_Stream r.2)) (by kernel_rfl) Tryz.func27 rfl rfl rfl rfl fun X bl hN => ?_
  unfold m_gatemake_Stream_Odd at H
  refine awp_seq ?_
  refine awp_plain hN rfl ?_
  refine seq_run0 (stp_assign (.dat _) rfl) ?_
  refine awp_seq ?_
  refine awp_seq ?_
  refine awp_plain hN rfl ?_
  refine seq_run0 (stp_move (.ptr _ _) rfl) ?_
  obtain ⟨r4, h5, H⟩ := bnd H
  refine seq_run2 (stp_imp (k_gatemake_Stream_Flip s1 12 r4 h5) rfl ⟨.inl rfl, trivial⟩ rfl) rfl ?_
  refine awp_cond _ rfl (fun h6 => ?_) (fun h6 => ?_)
  · replace H := ift h6 H
    refine awp_seq ?_
    refine awp_plain hN rfl ?_
    refine seq_run0 (stp_move (.ptr _ _) rfl) ?_
    refine seq_run0 (stp_move (.dat _) rfl) ?_
    refine seq_run0 (stp_wrap _ rfl rfl (.inr (.inl ⟨rfl, rfl⟩))) ?_
    refine seq_run0 (stp_move (.dat _) rfl) ?_
    refine seq_run0 (stp_wrap _ rfl rfl (.inl ⟨rfl, rfl⟩)) ?_
    refine seq_run0 (stp_move (.dat _) rfl) ?_
    refine seq_run0 (stp_move (.dat _) rfl) ?_
    refine seq_run0 (stp_dat (u' := vlst (List.map C_int [wr (low2 - 1), wr (high3 + 1), low2, high3, (-1099511627776), 1099511627776])) (stp_lit [[_], [_], [_], [_], [_], [_]] tyL22 ⟨rfl, .inl ⟨_, rfl, rfl, rfl⟩, rfl, rfl, .inl ⟨_, rfl, rfl, rfl⟩, rfl, rfl, .inl ⟨_, rfl, rfl, rfl⟩, rfl, rfl, .inl ⟨_, rfl, rfl, rfl⟩, rfl, rfl, .inl ⟨_, rfl, rfl, rfl⟩, rfl, rfl, .inl ⟨_, rfl, rfl, rfl⟩, rfl, trivial⟩ rfl rfl) rfl) ?_
    obtain ⟨r7, h8, H⟩ := bnd H
    refine seq_run2 (stp_imp (k_gatemake_Stream_Pick r4.2 [wr (low2 - 1), wr (high3 + 1), low2, high3, (-1099511627776), 1099511627776] r7 h8) rfl ⟨.inl rfl, trivial⟩ rfl) rfl ?_
    refine seq_run0 (stp_assign (.dat _) rfl) ?_
    refine awp_ret ?_
    cases H
    exact ⟨trivial, ⟨.inl rfl, trivial⟩, rfl⟩
  · replace H := iff_ h6 H
    refine awp_skip ?_
    refine awp_seq ?_
    refine awp_plain hN rfl ?_
    refine seq_run0 (stp_move (.ptr _ _) rfl) ?_
    refine seq_run0 (stp_move (.dat _) rfl) ?_
    refine seq_run0 (stp_move (.dat _) rfl) ?_
    obtain ⟨r9, h10, H⟩ := bnd H
    refine seq_run2 (stp_imp (k_gatemake_Stream_Range r4.2 low2 high3 r9 h10) rfl ⟨.inl rfl, .inl rfl, trivial⟩ rfl) rfl ?_
    refine seq_run0 (stp_assign (.dat _) rfl) ?_
    refine awp_ret ?_
    cases H
    exact ⟨trivial, ⟨.inl rfl, trivial⟩, rfl⟩
theorem k_gatemake_Stream_CacheResponse (s1 : S_gatemake_Stream) (r : (S_api_Response × S_gatemake_Stream)) (H : m_gatemake_Stream_CacheResponse s1 = some r) : Imp Tryz.prog 7 25 (C_gatemake_Stream s1) [] (resOf [vagg (C_api_Response r.1)]) (C_gatemake_Stream r.2) := by
  refine imp_of (us := [vagg (C_api_Response r.1)]) (cs' := (C_gatemake_Stream r.2)) (by kernel_rfl) Tryz.func7 rfl rfl rfl rfl fun X bl hN => ?_
  unfold m_gatemake_Stream_CacheResponse at H
  refine awp_seq ?_
  refine awp_plain hN rfl ?_
  refine seq_run2 (stp_alloc 1 tyZ33 rfl) rfl ?_
  refine awp_seq ?_
  refine awp_plain hN rfl ?_
  refine seq_run0 (stp_move (.ptr _ _) rfl) ?_
  refine seq_run0 (stp_dat (u' := vlst (List.map C_int [200, 200, 200, 200, 404, 304, 500, 204, 201])) (stp_lit [[_], [_], [_], [_], [_], [_], [_], [_], [_]] tyL22 ⟨rfl, .inl ⟨_, rfl, rfl, rfl⟩, rfl, rfl, .inl ⟨_, rfl, rfl, rfl⟩, rfl, rfl, .inl ⟨_, rfl, rfl, rfl⟩, rfl, rfl, .inl ⟨_, rfl, rfl, rfl⟩, rfl, rfl, .inl ⟨_, rfl, rfl, rfl⟩, rfl, rfl, .inl ⟨_, rfl, rfl, rfl⟩, rfl, rfl, .inl ⟨_, rfl, rfl, rfl⟩, rfl, rfl, .inl ⟨_, rfl, rfl, rfl⟩, rfl, rfl, .inl ⟨_, rfl, rfl, rfl⟩, rfl, trivial⟩ rfl rfl) rfl) ?_
  obtain ⟨r2, h3, H⟩ := bnd H
  refine seq_run2 (stp_imp (k_gatemake_Stream_Pick s1 [200, 200, 200, 200, 404, 304, 500, 204, 201] r2 h3) rfl ⟨.inl rfl, trivial⟩ rfl) rfl ?_
  refine seq_run0 (stp_move (.ptr _ _) rfl) ?_
  obtain ⟨r4, h5, H⟩ := bnd H
  refine seq_run0 (stp_call (k_strings_Repeat [122] 50 r4 h5) ⟨.inl rfl, .inl rfl, trivial⟩) ?_
  refine seq_run0 (stp_dat (u' := vlst (List.map C_string [[104, 101, 108, 108, 111], [120], [], r4])) (stp_lit [[_], [_], [_], [_]] tyL48 ⟨rfl, .inl ⟨_, rfl, rfl, rfl⟩, rfl, rfl, .inl ⟨_, rfl, rfl, rfl⟩, rfl, rfl, .inl ⟨_, rfl, rfl, rfl⟩, rfl, rfl, .inl ⟨_, rfl, rfl, rfl⟩, rfl, trivial⟩ rfl rfl) rfl) ?_
  obtain ⟨r6, h7, H⟩ := bnd H
  refine seq_run2 (stp_imp (k_gatemake_Stream_Some r2.2 ([[104, 101, 108, 108, 111], [120], [], r4]) r6 h7) rfl ⟨.inl rfl, trivial⟩ rfl) rfl ?_
  refine seq_run0 (stp_dat (u' := vagg [vint r2.1, vnil, vstr r6.1]) (stp_build [(0, [vint r2.1]), (2, [vstr r6.1])] tyZ33 tyP33 rfl ⟨rfl, .inl ⟨_, rfl, rfl, rfl⟩, rfl, rfl, .inl ⟨_, rfl, rfl, rfl⟩, rfl, trivial⟩) rfl) ?_
  refine seq_run2 (stp_alloc 2 tyZ33 rfl) rfl ?_
  refine seq_run2 (stp_storeW tyS33 rfl rfl rfl rfl) rfl ?_
  refine awp_nilrowB 2 1 3 51 2 rfl rfl rfl rfl ?_
  refine awp_seq ?_
  refine awp_plain hN rfl ?_
  refine seq_run1 (stp_dr (s := .dr 2 (fun qb => vfn 25 [vval (.pointer (some ⟨qb, 0, none⟩))])) 2 (fun qb => stp_mkfn (us := [_]) ⟨rfl, trivial⟩) rfl rfl) rfl ?_
  refine seq_run0 (stp_assign (.dr _ _) rfl) ?_
  refine awp_joinE (ι := (List Int) × Int × (List S_api_Header) × Int × Bs) (fun i => [(0, .ptr 0 0), (2, .ptr 1 0), (3, .ptr 2 0), (4, .dr 2 (fun qb => vfn 25 [vval (.pointer (some ⟨qb, 0, none⟩))]))]) (fun i => [(0, .box (some bl) 25 [.dat (vlst (List.map C_int i.1)), .dat (vint i.2.1)]), (1, .box none 33 [.dat (vint 0), .dat (vnil), .dat (vstr [])]), (2, .box none 33 [.dat (vint i.2.2.2.1), .row 5 i.2.2.1.length, .dat (vstr i.2.2.2.2)]), (5, .row 51 2 (List.map C_api_Header i.2.2.1))]) (fun i => gatemake_Stream_CacheResponse_J1 i.1 i.2.1 i.2.2.1 i.2.2.2.1 i.2.2.2.2 = some r) (fun i => rfl) ?_ ?_
  · refine awp_cv ?_
    refine awp_seq ?_
    refine awp_plain hN rfl ?_
    refine seq_run0 (stp_move (.ptr _ _) rfl) ?_
    obtain ⟨r8, h9, H⟩ := bnd H
    refine seq_run2 (stp_imp (k_gatemake_Stream_Flip r6.2 6 r8 h9) rfl ⟨.inl rfl, trivial⟩ rfl) rfl ?_
    refine seq_run0 (stp_not rfl) ?_
    refine awp_cond _ rfl (fun h10 => ?_) (fun h10 => ?_)
    · replace H := ift h10 H
      refine awp_plain hN rfl ?_
      refine seq_run0 (stp_move (.dr _ _) rfl) ?_
      refine seq_run0 (stp_move (.ptr _ _) rfl) ?_
      refine seq_run0 (stp_dat (u' := vlst (List.map C_string [[99, 97, 99, 104, 101, 45, 99, 111, 110, 116, 114, 111, 108], [67, 97, 99, 104, 101, 45, 67, 111, 110, 116, 114, 111, 108]])) (stp_lit [[_], [_]] tyL48 ⟨rfl, .inl ⟨_, rfl, rfl, rfl⟩, rfl, rfl, .inl ⟨_, rfl, rfl, rfl⟩, rfl, trivial⟩ rfl rfl) rfl) ?_
      obtain ⟨r11, h12, H⟩ := bnd H
      refine seq_run2 (stp_imp (k_gatemake_Stream_Some r8.2 ([[99, 97, 99, 104, 101, 45, 99, 111, 110, 116, 114, 111, 108], [67, 97, 99, 104, 101, 45, 67, 111, 110, 116, 114, 111, 108]]) r11 h12) rfl ⟨.inl rfl, trivial⟩ rfl) rfl ?_
      refine seq_run0 (stp_move (.ptr _ _) rfl) ?_
      obtain ⟨r13, h14, H⟩ := bnd H
      refine seq_run2 (stp_imp (k_gatemake_Stream_ControlValue r11.2 r13 h14) rfl trivial rfl) rfl ?_
      obtain ⟨r15, h16, H⟩ := bnd H
      refine seq_callGv (args := [.dat (vstr r11.1), .dat (vstr r13.1)]) (i0 := 0) (rn [(0, 2), (1, 3), (900, 4)]) [(0, _, _, some _), (1, _, _, none)] [(900, _)] (kk_gatemake_Stream_CacheResponse_1 r11.1 r13.1 (S_api_Response.mk r2.1 ([] : List S_api_Header) r6.1) r15 h16) ⟨rfl, rfl, rfl, trivial⟩ rfl rfl ⟨.inl (.inl rfl), .inl (.inl rfl), trivial⟩ ⟨⟨⟨rfl, rfl⟩, trivial⟩, ⟨⟨rfl, rfl, rfl⟩, trivial⟩, trivial⟩ rfl ?_
      refine seq_end ?_
      show Cv _ _ _ _
      refine cv_ren (rn [(4, 5)]) [(0, .ptr 0 0), (2, .ptr 1 0), (3, .ptr 2 0), (4, .dr 2 (fun qb => vfn 25 [vval (.pointer (some ⟨qb, 0, none⟩))]))] [(0, .box (some bl) 25 [.dat (vlst (List.map C_int r13.2.L)), .dat (vint r13.2.at_)]), (1, .box none 33 [.dat (vint 0), .dat (vnil), .dat (vstr [])]), (2, .box none 33 [.dat (vint r15.Status), .row 4 r15.Headers.length, .dat (vstr r15.Body)]), (4, .row 51 2 (List.map C_api_Header r15.Headers))] ⟨rfl, rfl, rfl, rfl, trivial⟩ ⟨rfl, rfl, rfl, rfl, trivial⟩ rfl rfl ?_
      exact ⟨(r13.2.L, r13.2.at_, r15.Headers, r15.Status, r15.Body), H, ⟨rfl, rfl, rfl, rfl, trivial⟩, ⟨rfl, rfl, rfl, rfl, trivial⟩⟩
    · replace H := iff_ h10 H
      refine awp_skip ?_
      show Cv _ _ _ _
      refine cv_ren (rn [(3, 5)]) [(0, .ptr 0 0), (2, .ptr 1 0), (3, .ptr 2 0), (4, .dr 2 (fun qb => vfn 25 [vval (.pointer (some ⟨qb, 0, none⟩))]))] [(0, .box (some bl) 25 [.dat (vlst (List.map C_int r8.2.L)), .dat (vint r8.2.at_)]), (1, .box none 33 [.dat (vint 0), .dat (vnil), .dat (vstr [])]), (2, .box none 33 [.dat (vint r2.1), .row 3 0, .dat (vstr r6.1)]), (3, .row 51 2 (List.map C_api_Header ([] : List S_api_Header)))] ⟨rfl, rfl, rfl, rfl, trivial⟩ ⟨rfl, rfl, rfl, rfl, trivial⟩ rfl rfl ?_
      exact ⟨(r8.2.L, r8.2.at_, ([] : List S_api_Header), r2.1, r6.1), H, ⟨rfl, rfl, rfl, rfl, trivial⟩, ⟨rfl, rfl, rfl, rfl, trivial⟩⟩
  · rintro ⟨c17, c18, l19, c20, c21⟩ H
    replace H : gatemake_Stream_CacheResponse_J1 c17 c18 l19 c20 c21 = some r := H
    unfold gatemake_Stream_CacheResponse_J1 at H
    refine awp_joinE (ι := (List Int) × Int × (List S_api_Header) × Int × Bs) (fun i => [(0, .ptr 0 0), (2, .ptr 1 0), (3, .ptr 2 0), (4, .dr 2 (fun qb => vfn 25 [vval (.pointer (some ⟨qb, 0, none⟩))]))]) (fun i => [(0, .box (some bl) 25 [.dat (vlst (List.map C_int i.1)), .dat (vint i.2.1)]), (1, .box none 33 [.dat (vint 0), .dat (vnil), .dat (vstr [])]), (2, .box none 33 [.dat (vint i.2.2.2.1), .row 7 i.2.2.1.length, .dat (vstr i.2.2.2.2)]), (7, .row 51 2 (List.map C_api_Header i.2.2.1))]) (fun i => gatemake_Stream_CacheResponse_J2 i.1 i.2.1 i.2.2.1 i.2.2.2.1 i.2.2.2.2 = some r) (fun i => rfl) ?_ ?_
    · refine awp_cv ?_
      refine awp_seq ?_
      refine awp_plain hN rfl ?_
      refine seq_run0 (stp_move (.ptr _ _) rfl) ?_
      obtain ⟨r22, h23, H⟩ := bnd H
      refine seq_run2 (stp_imp (k_gatemake_Stream_Flip (S_gatemake_Stream.mk c17 c18) 3 r22 h23) rfl ⟨.inl rfl, trivial⟩ rfl) rfl ?_
      refine awp_cond _ rfl (fun h24 => ?_) (fun h24 => ?_)
      · replace H := ift h24 H
        refine awp_plain hN rfl ?_
        refine seq_run0 (stp_move (.dr _ _) rfl) ?_
        refine seq_run0 (stp_move (.ptr _ _) rfl) ?_
        refine seq_run0 (stp_dat (u' := vlst (List.map C_string [[97, 99, 99, 101, 112, 116, 45, 108, 97, 110, 103, 117, 97, 103, 101], [65, 99, 99, 101, 112, 116, 45, 76, 97, 110, 103, 117, 97, 103, 101, 44, 32, 120, 45, 111, 110, 101], [42], [], [120, 45, 111, 110, 101, 44, 88, 45, 79, 110, 101]])) (stp_lit [[_], [_], [_], [_], [_]] tyL48 ⟨rfl, .inl ⟨_, rfl, rfl, rfl⟩, rfl, rfl, .inl ⟨_, rfl, rfl, rfl⟩, rfl, rfl, .inl ⟨_, rfl, rfl, rfl⟩, rfl, rfl, .inl ⟨_, rfl, rfl, rfl⟩, rfl, rfl, .inl ⟨_, rfl, rfl, rfl⟩, rfl, trivial⟩ rfl rfl) rfl) ?_
        obtain ⟨r25, h26, H⟩ := bnd H
        refine seq_run2 (stp_imp (k_gatemake_Stream_Some r22.2 ([[97, 99, 99, 101, 112, 116, 45, 108, 97, 110, 103, 117, 97, 103, 101], [65, 99, 99, 101, 112, 116, 45, 76, 97, 110, 103, 117, 97, 103, 101, 44, 32, 120, 45, 111, 110, 101], [42], [], [120, 45, 111, 110, 101, 44, 88, 45, 79, 110, 101]]) r25 h26) rfl ⟨.inl rfl, trivial⟩ rfl) rfl ?_
        obtain ⟨r27, h28, H⟩ := bnd H
        refine seq_callGv (args := [.dat (vstr [118, 97, 114, 121]), .dat (vstr r25.1)]) (i0 := 0) (rn [(0, 2), (1, 5), (900, 6)]) [(0, _, _, some _), (1, _, _, none)] [(900, _)] (kk_gatemake_Stream_CacheResponse_1 [118, 97, 114, 121] r25.1 (S_api_Response.mk c20 l19 c21) r27 h28) ⟨rfl, rfl, rfl, trivial⟩ rfl rfl ⟨.inl (.inl rfl), .inl (.inl rfl), trivial⟩ ⟨⟨⟨rfl, rfl⟩, trivial⟩, ⟨⟨rfl, rfl, rfl⟩, trivial⟩, trivial⟩ rfl ?_
        refine seq_end ?_
        show Cv _ _ _ _
        refine cv_ren (rn [(6, 7)]) [(0, .ptr 0 0), (2, .ptr 1 0), (3, .ptr 2 0), (4, .dr 2 (fun qb => vfn 25 [vval (.pointer (some ⟨qb, 0, none⟩))]))] [(0, .box (some bl) 25 [.dat (vlst (List.map C_int r25.2.L)), .dat (vint r25.2.at_)]), (1, .box none 33 [.dat (vint 0), .dat (vnil), .dat (vstr [])]), (2, .box none 33 [.dat (vint r27.Status), .row 6 r27.Headers.length, .dat (vstr r27.Body)]), (6, .row 51 2 (List.map C_api_Header r27.Headers))] ⟨rfl, rfl, rfl, rfl, trivial⟩ ⟨rfl, rfl, rfl, rfl, trivial⟩ rfl rfl ?_
        exact ⟨(r25.2.L, r25.2.at_, r27.Headers, r27.Status, r27.Body), H, ⟨rfl, rfl, rfl, rfl, trivial⟩, ⟨rfl, rfl, rfl, rfl, trivial⟩⟩
      · replace H := iff_ h24 H
        refine awp_skip ?_
        show Cv _ _ _ _
        refine cv_ren (rn [(5, 7)]) [(0, .ptr 0 0), (2, .ptr 1 0), (3, .ptr 2 0), (4, .dr 2 (fun qb => vfn 25 [vval (.pointer (some ⟨qb, 0, none⟩))]))] [(0, .box (some bl) 25 [.dat (vlst (List.map C_int r22.2.L)), .dat (vint r22.2.at_)]), (1, .box none 33 [.dat (vint 0), .dat (vnil), .dat (vstr [])]), (2, .box none 33 [.dat (vint c20), .row 5 l19.length, .dat (vstr c21)]), (5, .row 51 2 (List.map C_api_Header l19))] ⟨rfl, rfl, rfl, rfl, trivial⟩ ⟨rfl, rfl, rfl, rfl, trivial⟩ rfl rfl ?_
        exact ⟨(r22.2.L, r22.2.at_, l19, c20, c21), H, ⟨rfl, rfl, rfl, rfl, trivial⟩, ⟨rfl, rfl, rfl, rfl, trivial⟩⟩
    · rintro ⟨c29, c30, l31, c32, c33⟩ H
      replace H : gatemake_Stream_CacheResponse_J2 c29 c30 l31 c32 c33 = some r := H
      unfold gatemake_Stream_CacheResponse_J2 at H
      refine awp_joinE (ι := (List Int) × Int × (List S_api_Header) × Int × Bs) (fun i => [(0, .ptr 0 0), (2, .ptr 1 0), (3, .ptr 2 0), (4, .dr 2 (fun qb => vfn 25 [vval (.pointer (some ⟨qb, 0, none⟩))]))]) (fun i => [(0, .box (some bl) 25 [.dat (vlst (List.map C_int i.1)), .dat (vint i.2.1)]), (1, .box none 33 [.dat (vint 0), .dat (vnil), .dat (vstr [])]), (2, .box none 33 [.dat (vint i.2.2.2.1), .row 9 i.2.2.1.length, .dat (vstr i.2.2.2.2)]), (9, .row 51 2 (List.map C_api_Header i.2.2.1))]) (fun i => gatemake_Stream_CacheResponse_J3 i.1 i.2.1 i.2.2.1 i.2.2.2.1 i.2.2.2.2 = some r) (fun i => rfl) ?_ ?_
      · refine awp_cv ?_
        refine awp_seq ?_
        refine awp_plain hN rfl ?_
        refine seq_run0 (stp_move (.ptr _ _) rfl) ?_
        obtain ⟨r34, h35, H⟩ := bnd H
        refine seq_run2 (stp_imp (k_gatemake_Stream_Flip (S_gatemake_Stream.mk c29 c30) 2 r34 h35) rfl ⟨.inl rfl, trivial⟩ rfl) rfl ?_
        refine awp_cond _ rfl (fun h36 => ?_) (fun h36 => ?_)
        · replace H := ift h36 H
          refine awp_plain hN rfl ?_
          refine seq_run0 (stp_move (.dr _ _) rfl) ?_
          refine seq_run0 (stp_move (.ptr _ _) rfl) ?_
          refine seq_run0 (stp_dat (u' := vlst (List.map C_string [[101, 116, 97, 103], [69, 84, 97, 103]])) (stp_lit [[_], [_]] tyL48 ⟨rfl, .inl ⟨_, rfl, rfl, rfl⟩, rfl, rfl, .inl ⟨_, rfl, rfl, rfl⟩, rfl, trivial⟩ rfl rfl) rfl) ?_
          obtain ⟨r37, h38, H⟩ := bnd H
          refine seq_run2 (stp_imp (k_gatemake_Stream_Some r34.2 ([[101, 116, 97, 103], [69, 84, 97, 103]]) r37 h38) rfl ⟨.inl rfl, trivial⟩ rfl) rfl ?_
          refine seq_run0 (stp_move (.ptr _ _) rfl) ?_
          refine seq_run0 (stp_dat (u' := vlst (List.map C_string [[34, 118, 49, 34], [87, 47, 34, 118, 50, 34], [118, 51]])) (stp_lit [[_], [_], [_]] tyL48 ⟨rfl, .inl ⟨_, rfl, rfl, rfl⟩, rfl, rfl, .inl ⟨_, rfl, rfl, rfl⟩, rfl, rfl, .inl ⟨_, rfl, rfl, rfl⟩, rfl, trivial⟩ rfl rfl) rfl) ?_
          obtain ⟨r39, h40, H⟩ := bnd H
          refine seq_run2 (stp_imp (k_gatemake_Stream_Some r37.2 ([[34, 118, 49, 34], [87, 47, 34, 118, 50, 34], [118, 51]]) r39 h40) rfl ⟨.inl rfl, trivial⟩ rfl) rfl ?_
          obtain ⟨r41, h42, H⟩ := bnd H
          refine seq_callGv (args := [.dat (vstr r37.1), .dat (vstr r39.1)]) (i0 := 0) (rn [(0, 2), (1, 7), (900, 8)]) [(0, _, _, some _), (1, _, _, none)] [(900, _)] (kk_gatemake_Stream_CacheResponse_1 r37.1 r39.1 (S_api_Response.mk c32 l31 c33) r41 h42) ⟨rfl, rfl, rfl, trivial⟩ rfl rfl ⟨.inl (.inl rfl), .inl (.inl rfl), trivial⟩ ⟨⟨⟨rfl, rfl⟩, trivial⟩, ⟨⟨rfl, rfl, rfl⟩, trivial⟩, trivial⟩ rfl ?_
          refine seq_end ?_
          show Cv _ _ _ _
          refine cv_ren (rn [(8, 9)]) [(0, .ptr 0 0), (2, .ptr 1 0), (3, .ptr 2 0), (4, .dr 2 (fun qb => vfn 25 [vval (.pointer (some ⟨qb, 0, none⟩))]))] [(0, .box (some bl) 25 [.dat (vlst (List.map C_int r39.2.L)), .dat (vint r39.2.at_)]), (1, .box none 33 [.dat (vint 0), .dat (vnil), .dat (vstr [])]), (2, .box none 33 [.dat (vint r41.Status), .row 8 r41.Headers.length, .dat (vstr r41.Body)]), (8, .row 51 2 (List.map C_api_Header r41.Headers))] ⟨rfl, rfl, rfl, rfl, trivial⟩ ⟨rfl, rfl, rfl, rfl, trivial⟩ rfl rfl ?_
          exact ⟨(r39.2.L, r39.2.at_, r41.Headers, r41.Status, r41.Body), H, ⟨rfl, rfl, rfl, rfl, trivial⟩, ⟨rfl, rfl, rfl, rfl, trivial⟩⟩
        · replace H := iff_ h36 H
          refine awp_skip ?_
          show Cv _ _ _ _
          refine cv_ren (rn [(7, 9)]) [(0, .ptr 0 0), (2, .ptr 1 0), (3, .ptr 2 0), (4, .dr 2 (fun qb => vfn 25 [vval (.pointer (some ⟨qb, 0, none⟩))]))] [(0, .box (some bl) 25 [.dat (vlst (List.map C_int r34.2.L)), .dat (vint r34.2.at_)]), (1, .box none 33 [.dat (vint 0), .dat (vnil), .dat (vstr [])]), (2, .box none 33 [.dat (vint c32), .row 7 l31.length, .dat (vstr c33)]), (7, .row 51 2 (List.map C_api_Header l31))] ⟨rfl, rfl, rfl, rfl, trivial⟩ ⟨rfl, rfl, rfl, rfl, trivial⟩ rfl rfl ?_
          exact ⟨(r34.2.L, r34.2.at_, l31, c32, c33), H, ⟨rfl, rfl, rfl, rfl, trivial⟩, ⟨rfl, rfl, rfl, rfl, trivial⟩⟩
      · rintro ⟨c43, c44, l45, c46, c47⟩ H
        replace H : gatemake_Stream_CacheResponse_J3 c43 c44 l45 c46 c47 = some r := H
        unfold gatemake_Stream_CacheResponse_J3 at H
        refine awp_joinE (ι := (List Int) × Int × (List S_api_Header) × Int × Bs) (fun i => [(0, .ptr 0 0), (2, .ptr 1 0), (3, .ptr 2 0), (4, .dr 2 (fun qb => vfn 25 [vval (.pointer (some ⟨qb, 0, none⟩))]))]) (fun i => [(0, .box (some bl) 25 [.dat (vlst (List.map C_int i.1)), .dat (vint i.2.1)]), (1, .box none 33 [.dat (vint 0), .dat (vnil), .dat (vstr [])]), (2, .box none 33 [.dat (vint i.2.2.2.1), .row 11 i.2.2.1.length, .dat (vstr i.2.2.2.2)]), (11, .row 51 2 (List.map C_api_Header i.2.2.1))]) (fun i => gatemake_Stream_CacheResponse_J4 i.1 i.2.1 i.2.2.1 i.2.2.2.1 i.2.2.2.2 = some r) (fun i => rfl) ?_ ?_
        · refine awp_cv ?_
          refine awp_seq ?_
          refine awp_plain hN rfl ?_
          refine seq_run0 (stp_move (.ptr _ _) rfl) ?_
          obtain ⟨r48, h49, H⟩ := bnd H
          refine seq_run2 (stp_imp (k_gatemake_Stream_Flip (S_gatemake_Stream.mk c43 c44) 4 r48 h49) rfl ⟨.inl rfl, trivial⟩ rfl) rfl ?_
          refine awp_cond _ rfl (fun h50 => ?_) (fun h50 => ?_)
          · replace H := ift h50 H
            refine awp_plain hN rfl ?_
            refine seq_run0 (stp_move (.dr _ _) rfl) ?_
            refine seq_run0 (stp_move (.ptr _ _) rfl) ?_
            refine seq_run0 (stp_dat (u' := vlst (List.map C_string [[114, 101, 100], [114, 101, 100, 44, 32, 98, 108, 117, 101], [98, 108, 117, 101, 32, 103, 114, 101, 101, 110], [114, 101, 100, 32, 114, 101, 100]])) (stp_lit [[_], [_], [_], [_]] tyL48 ⟨rfl, .inl ⟨_, rfl, rfl, rfl⟩, rfl, rfl, .inl ⟨_, rfl, rfl, rfl⟩, rfl, rfl, .inl ⟨_, rfl, rfl, rfl⟩, rfl, rfl, .inl ⟨_, rfl, rfl, rfl⟩, rfl, trivial⟩ rfl rfl) rfl) ?_
            obtain ⟨r51, h52, H⟩ := bnd H
            refine seq_run2 (stp_imp (k_gatemake_Stream_Some r48.2 ([[114, 101, 100], [114, 101, 100, 44, 32, 98, 108, 117, 101], [98, 108, 117, 101, 32, 103, 114, 101, 101, 110], [114, 101, 100, 32, 114, 101, 100]]) r51 h52) rfl ⟨.inl rfl, trivial⟩ rfl) rfl ?_
            obtain ⟨r53, h54, H⟩ := bnd H
            refine seq_callGv (args := [.dat (vstr [99, 97, 99, 104, 101, 45, 116, 97, 103]), .dat (vstr r51.1)]) (i0 := 0) (rn [(0, 2), (1, 9), (900, 10)]) [(0, _, _, some _), (1, _, _, none)] [(900, _)] (kk_gatemake_Stream_CacheResponse_1 [99, 97, 99, 104, 101, 45, 116, 97, 103] r51.1 (S_api_Response.mk c46 l45 c47) r53 h54) ⟨rfl, rfl, rfl, trivial⟩ rfl rfl ⟨.inl (.inl rfl), .inl (.inl rfl), trivial⟩ ⟨⟨⟨rfl, rfl⟩, trivial⟩, ⟨⟨rfl, rfl, rfl⟩, trivial⟩, trivial⟩ rfl ?_
            refine seq_end ?_
            show Cv _ _ _ _
            refine cv_ren (rn [(10, 11)]) [(0, .ptr 0 0), (2, .ptr 1 0), (3, .ptr 2 0), (4, .dr 2 (fun qb => vfn 25 [vval (.pointer (some ⟨qb, 0, none⟩))]))] [(0, .box (some bl) 25 [.dat (vlst (List.map C_int r51.2.L)), .dat (vint r51.2.at_)]), (1, .box none 33 [.dat (vint 0), .dat (vnil), .dat (vstr [])]), (2, .box none 33 [.dat (vint r53.Status), .row 10 r53.Headers.length, .dat (vstr r53.Body)]), (10, .row 51 2 (List.map C_api_Header r53.Headers))] ⟨rfl, rfl, rfl, rfl, trivial⟩ ⟨rfl, rfl, rfl, rfl, trivial⟩ rfl rfl ?_
            exact ⟨(r51.2.L, r51.2.at_, r53.Headers, r53.Status, r53.Body), H, ⟨rfl, rfl, rfl, rfl, trivial⟩, ⟨rfl, rfl, rfl, rfl, trivial⟩⟩
          · replace H := iff_ h50 H
            refine awp_skip ?_
            show Cv _ _ _ _
            refine cv_ren (rn [(9, 11)]) [(0, .ptr 0 0), (2, .ptr 1 0), (3, .ptr 2 0), (4, .dr 2 (fun qb => vfn 25 [vval (.pointer (some ⟨qb, 0, none⟩))]))] [(0, .box (some bl) 25 [.dat (vlst (List.map C_int r48.2.L)), .dat (vint r48.2.at_)]), (1, .box none 33 [.dat (vint 0), .dat (vnil), .dat (vstr [])]), (2, .box none 33 [.dat (vint c46), .row 9 l45.length, .dat (vstr c47)]), (9, .row 51 2 (List.map C_api_Header l45))] ⟨rfl, rfl, rfl, rfl, trivial⟩ ⟨rfl, rfl, rfl, rfl, trivial⟩ rfl rfl ?_
            exact ⟨(r48.2.L, r48.2.at_, l45, c46, c47), H, ⟨rfl, rfl, rfl, rfl, trivial⟩, ⟨rfl, rfl, rfl, rfl, trivial⟩⟩
        · rintro ⟨c55, c56, l57, c58, c59⟩ H
          replace H : gatemake_Stream_CacheResponse_J4 c55 c56 l57 c58 c59 = some r := H
          unfold gatemake_Stream_CacheResponse_J4 at H
          refine awp_joinE (ι := (List Int) × Int × (List S_api_Header) × Int × Bs) (fun i => [(0, .ptr 0 0), (2, .ptr 1 0), (3, .ptr 2 0), (4, .dr 2 (fun qb => vfn 25 [vval (.pointer (some ⟨qb, 0, none⟩))]))]) (fun i => [(0, .box (some bl) 25 [.dat (vlst (List.map C_int i.1)), .dat (vint i.2.1)]), (1, .box none 33 [.dat (vint 0), .dat (vnil), .dat (vstr [])]), (2, .box none 33 [.dat (vint i.2.2.2.1), .row 13 i.2.2.1.length, .dat (vstr i.2.2.2.2)]), (13, .row 51 2 (List.map C_api_Header i.2.2.1))]) (fun i => gatemake_Stream_CacheResponse_J5 i.1 i.2.1 i.2.2.1 i.2.2.2.1 i.2.2.2.2 = some r) (fun i => rfl) ?_ ?_
          · refine awp_cv ?_
            refine awp_seq ?_
            refine awp_plain hN rfl ?_
            refine seq_run0 (stp_move (.ptr _ _) rfl) ?_
            obtain ⟨r60, h61, H⟩ := bnd H
            refine seq_run2 (stp_imp (k_gatemake_Stream_Flip (S_gatemake_Stream.mk c55 c56) 6 r60 h61) rfl ⟨.inl rfl, trivial⟩ rfl) rfl ?_
            refine awp_cond _ rfl (fun h62 => ?_) (fun h62 => ?_)
            · replace H := ift h62 H
              refine awp_plain hN rfl ?_
              refine seq_run0 (stp_move (.dr _ _) rfl) ?_
              refine seq_run0 (stp_move (.ptr _ _) rfl) ?_
              refine seq_run0 (stp_dat (u' := vlst (List.map C_string [[53], [53, 48], [120], [45, 49], [49, 48, 48, 48, 48, 48, 48, 48, 49]])) (stp_lit [[_], [_], [_], [_], [_]] tyL48 ⟨rfl, .inl ⟨_, rfl, rfl, rfl⟩, rfl, rfl, .inl ⟨_, rfl, rfl, rfl⟩, rfl, rfl, .inl ⟨_, rfl, rfl, rfl⟩, rfl, rfl, .inl ⟨_, rfl, rfl, rfl⟩, rfl, rfl, .inl ⟨_, rfl, rfl, rfl⟩, rfl, trivial⟩ rfl rfl) rfl) ?_
              obtain ⟨r63, h64, H⟩ := bnd H
              refine seq_run2 (stp_imp (k_gatemake_Stream_Some r60.2 ([[53], [53, 48], [120], [45, 49], [49, 48, 48, 48, 48, 48, 48, 48, 49]]) r63 h64) rfl ⟨.inl rfl, trivial⟩ rfl) rfl ?_
              obtain ⟨r65, h66, H⟩ := bnd H
              refine seq_callGv (args := [.dat (vstr [97, 103, 101]), .dat (vstr r63.1)]) (i0 := 0) (rn [(0, 2), (1, 11), (900, 12)]) [(0, _, _, some _), (1, _, _, none)] [(900, _)] (kk_gatemake_Stream_CacheResponse_1 [97, 103, 101] r63.1 (S_api_Response.mk c58 l57 c59) r65 h66) ⟨rfl, rfl, rfl, trivial⟩ rfl rfl ⟨.inl (.inl rfl), .inl (.inl rfl), trivial⟩ ⟨⟨⟨rfl, rfl⟩, trivial⟩, ⟨⟨rfl, rfl, rfl⟩, trivial⟩, trivial⟩ rfl ?_
              refine seq_end ?_
              show Cv _ _ _ _
              refine cv_ren (rn [(12, 13)]) [(0, .ptr 0 0), (2, .ptr 1 0), (3, .ptr 2 0), (4, .dr 2 (fun qb => vfn 25 [vval (.pointer (some ⟨qb, 0, none⟩))]))] [(0, .box (some bl) 25 [.dat (vlst (List.map C_int r63.2.L)), .dat (vint r63.2.at_)]), (1, .box none 33 [.dat (vint 0), .dat (vnil), .dat (vstr [])]), (2, .box none 33 [.dat (vint r65.Status), .row 12 r65.Headers.length, .dat (vstr r65.Body)]), (12, .row 51 2 (List.map C_api_Header r65.Headers))] ⟨rfl, rfl, rfl, rfl, trivial⟩ ⟨rfl, rfl, rfl, rfl, trivial⟩ rfl rfl ?_
              exact ⟨(r63.2.L, r63.2.at_, r65.Headers, r65.Status, r65.Body), H, ⟨rfl, rfl, rfl, rfl, trivial⟩, ⟨rfl, rfl, rfl, rfl, trivial⟩⟩
            · replace H := iff_ h62 H
              refine awp_skip ?_
              show Cv _ _ _ _
              refine cv_ren (rn [(11, 13)]) [(0, .ptr 0 0), (2, .ptr 1 0), (3, .ptr 2 0), (4, .dr 2 (fun qb => vfn 25 [vval (.pointer (some ⟨qb, 0, none⟩))]))] [(0, .box (some bl) 25 [.dat (vlst (List.map C_int r60.2.L)), .dat (vint r60.2.at_)]), (1, .box none 33 [.dat (vint 0), .dat (vnil), .dat (vstr [])]), (2, .box none 33 [.dat (vint c58), .row 11 l57.length, .dat (vstr c59)]), (11, .row 51 2 (List.map C_api_Header l57))] ⟨rfl, rfl, rfl, rfl, trivial⟩ ⟨rfl, rfl, rfl, rfl, trivial⟩ rfl rfl ?_
              exact ⟨(r60.2.L, r60.2.at_, l57, c58, c59), H, ⟨rfl, rfl, rfl, rfl, trivial⟩, ⟨rfl, rfl, rfl, rfl, trivial⟩⟩
          · rintro ⟨c67, c68, l69, c70, c71⟩ H
            replace H : gatemake_Stream_CacheResponse_J5 c67 c68 l69 c70 c71 = some r := H
            unfold gatemake_Stream_CacheResponse_J5 at H
            refine awp_joinE (ι := (List Int) × Int × (List S_api_Header) × Int × Bs) (fun i => [(0, .ptr 0 0), (2, .ptr 1 0), (3, .ptr 2 0)]) (fun i => [(0, .box (some bl) 25 [.dat (vlst (List.map C_int i.1)), .dat (vint i.2.1)]), (1, .box none 33 [.dat (vint 0), .dat (vnil), .dat (vstr [])]), (2, .box none 33 [.dat (vint i.2.2.2.1), .row 15 i.2.2.1.length, .dat (vstr i.2.2.2.2)]), (15, .row 51 2 (List.map C_api_Header i.2.2.1))]) (fun i => gatemake_Stream_CacheResponse_J6 i.1 i.2.1 i.2.2.1 i.2.2.2.1 i.2.2.2.2 = some r) (fun i => rfl) ?_ ?_
            · refine awp_cv ?_
              refine awp_seq ?_
              refine awp_plain hN rfl ?_
              refine seq_run0 (stp_move (.ptr _ _) rfl) ?_
              obtain ⟨r72, h73, H⟩ := bnd H
              refine seq_run2 (stp_imp (k_gatemake_Stream_Flip (S_gatemake_Stream.mk c67 c68) 30 r72 h73) rfl ⟨.inl rfl, trivial⟩ rfl) rfl ?_
              refine awp_cond _ rfl (fun h74 => ?_) (fun h74 => ?_)
              · replace H := ift h74 H
                refine awp_plain hN rfl ?_
                refine seq_run0 (stp_move (.dr _ _) rfl) ?_
                refine seq_run0 (stp_move (.ptr _ _) rfl) ?_
                refine seq_run0 (stp_dat (u' := vlst (List.map C_string [[118, 97, 114, 121], [99, 97, 99, 104, 101, 45, 116, 97, 103]])) (stp_lit [[_], [_]] tyL48 ⟨rfl, .inl ⟨_, rfl, rfl, rfl⟩, rfl, rfl, .inl ⟨_, rfl, rfl, rfl⟩, rfl, trivial⟩ rfl rfl) rfl) ?_
                obtain ⟨r75, h76, H⟩ := bnd H
                refine seq_run2 (stp_imp (k_gatemake_Stream_Some r72.2 ([[118, 97, 114, 121], [99, 97, 99, 104, 101, 45, 116, 97, 103]]) r75 h76) rfl ⟨.inl rfl, trivial⟩ rfl) rfl ?_
                refine seq_run0 (stp_move (.ptr _ _) rfl) ?_
                refine seq_run0 (stp_move (.ptr _ _) rfl) ?_
                refine seq_run0 (stp_dat (u' := vlst (List.map C_string [[104, 49], [104, 50], [104, 51], [104, 52], [104, 53], [104, 54], [104, 55], [104, 56], [104, 57], [104, 97], [104, 98], [104, 99]])) (stp_lit [[_], [_], [_], [_], [_], [_], [_], [_], [_], [_], [_], [_]] tyL48 ⟨rfl, .inl ⟨_, rfl, rfl, rfl⟩, rfl, rfl, .inl ⟨_, rfl, rfl, rfl⟩, rfl, rfl, .inl ⟨_, rfl, rfl, rfl⟩, rfl, rfl, .inl ⟨_, rfl, rfl, rfl⟩, rfl, rfl, .inl ⟨_, rfl, rfl, rfl⟩, rfl, rfl, .inl ⟨_, rfl, rfl, rfl⟩, rfl, rfl, .inl ⟨_, rfl, rfl, rfl⟩, rfl, rfl, .inl ⟨_, rfl, rfl, rfl⟩, rfl, rfl, .inl ⟨_, rfl, rfl, rfl⟩, rfl, rfl, .inl ⟨_, rfl, rfl, rfl⟩, rfl, rfl, .inl ⟨_, rfl, rfl, rfl⟩, rfl, rfl, .inl ⟨_, rfl, rfl, rfl⟩, rfl, trivial⟩ rfl rfl) rfl) ?_
                obtain ⟨r77, h78, H⟩ := bnd H
                refine seq_run2 (stp_imp (k_gatemake_Stream_Words r75.2 12 [44] ([[104, 49], [104, 50], [104, 51], [104, 52], [104, 53], [104, 54], [104, 55], [104, 56], [104, 57], [104, 97], [104, 98], [104, 99]]) r77 h78) rfl ⟨.inl rfl, .inl rfl, .inl rfl, trivial⟩ rfl) rfl ?_
                refine seq_run0 (stp_dat (u' := vlst (List.map C_string [[97, 32, 98], [65], [], r77.1])) (stp_lit [[_], [_], [_], [_]] tyL48 ⟨rfl, .inl ⟨_, rfl, rfl, rfl⟩, rfl, rfl, .inl ⟨_, rfl, rfl, rfl⟩, rfl, rfl, .inl ⟨_, rfl, rfl, rfl⟩, rfl, rfl, .inl ⟨_, rfl, rfl, rfl⟩, rfl, trivial⟩ rfl rfl) rfl) ?_
                obtain ⟨r79, h80, H⟩ := bnd H
                refine seq_run2 (stp_imp (k_gatemake_Stream_Some r77.2 ([[97, 32, 98], [65], [], r77.1]) r79 h80) rfl ⟨.inl rfl, trivial⟩ rfl) rfl ?_
                obtain ⟨r81, h82, H⟩ := bnd H
                refine seq_callGv (args := [.dat (vstr r75.1), .dat (vstr r79.1)]) (i0 := 0) (rn [(0, 2), (1, 13), (900, 14)]) [(0, _, _, some _), (1, _, _, none)] [(900, _)] (kk_gatemake_Stream_CacheResponse_1 r75.1 r79.1 (S_api_Response.mk c70 l69 c71) r81 h82) ⟨rfl, rfl, rfl, trivial⟩ rfl rfl ⟨.inl (.inl rfl), .inl (.inl rfl), trivial⟩ ⟨⟨⟨rfl, rfl⟩, trivial⟩, ⟨⟨rfl, rfl, rfl⟩, trivial⟩, trivial⟩ rfl ?_
                refine seq_end ?_
                show Cv _ _ _ _
                refine cv_ren (rn [(14, 15)]) [(0, .ptr 0 0), (2, .ptr 1 0), (3, .ptr 2 0)] [(0, .box (some bl) 25 [.dat (vlst (List.map C_int r79.2.L)), .dat (vint r79.2.at_)]), (1, .box none 33 [.dat (vint 0), .dat (vnil), .dat (vstr [])]), (2, .box none 33 [.dat (vint r81.Status), .row 14 r81.Headers.length, .dat (vstr r81.Body)]), (14, .row 51 2 (List.map C_api_Header r81.Headers))] ⟨rfl, rfl, rfl, trivial⟩ ⟨rfl, rfl, rfl, rfl, trivial⟩ rfl rfl ?_
                exact ⟨(r79.2.L, r79.2.at_, r81.Headers, r81.Status, r81.Body), H, ⟨rfl, rfl, rfl, trivial⟩, ⟨rfl, rfl, rfl, rfl, trivial⟩⟩
              · replace H := iff_ h74 H
                refine awp_skip ?_
                show Cv _ _ _ _
                refine cv_ren (rn [(13, 15)]) [(0, .ptr 0 0), (2, .ptr 1 0), (3, .ptr 2 0)] [(0, .box (some bl) 25 [.dat (vlst (List.map C_int r72.2.L)), .dat (vint r72.2.at_)]), (1, .box none 33 [.dat (vint 0), .dat (vnil), .dat (vstr [])]), (2, .box none 33 [.dat (vint c70), .row 13 l69.length, .dat (vstr c71)]), (13, .row 51 2 (List.map C_api_Header l69))] ⟨rfl, rfl, rfl, trivial⟩ ⟨rfl, rfl, rfl, rfl, trivial⟩ rfl rfl ?_
                exact ⟨(r72.2.L, r72.2.at_, l69, c70, c71), H, ⟨rfl, rfl, rfl, trivial⟩, ⟨rfl, rfl, rfl, rfl, trivial⟩⟩
            · rintro ⟨c83, c84, l85, c86, c87⟩ H
              replace H : gatemake_Stream_CacheResponse_J6 c83 c84 l85 c86 c87 = some r := H
              unfold gatemake_Stream_CacheResponse_J6 at H
              refine awp_joinE (ι := (List Int) × Int × Int) (fun i => [(2, .ptr 1 0), (3, .ptr 2 0)]) (fun i => [(0, .box (some bl) 25 [.dat (vlst (List.map C_int i.1)), .dat (vint i.2.1)]), (1, .box none 33 [.dat (vint 0), .dat (vnil), .dat (vstr [])]), (2, .box none 33 [.dat (vint i.2.2), .row 15 l85.length, .dat (vstr c87)]), (15, .row 51 2 (List.map C_api_Header l85))]) (fun i => gatemake_Stream_CacheResponse_J7 l85 c87 i.1 i.2.1 i.2.2 = some r) (fun i => rfl) ?_ ?_
              · refine awp_cv ?_
                refine awp_seq ?_
                refine awp_plain hN rfl ?_
                refine seq_run0 (stp_move (.ptr _ _) rfl) ?_
                obtain ⟨r88, h89, H⟩ := bnd H
                refine seq_run2 (stp_imp (k_gatemake_Stream_Flip (S_gatemake_Stream.mk c83 c84) 40 r88 h89) rfl ⟨.inl rfl, trivial⟩ rfl) rfl ?_
                refine awp_cond _ rfl (fun h90 => ?_) (fun h90 => ?_)
                · replace H := ift h90 H
                  refine awp_plain hN rfl ?_
                  refine seq_run0 (stp_move (.ptr _ _) rfl) ?_
                  obtain ⟨r91, h92, H⟩ := bnd H
                  refine seq_run2 (stp_imp (k_gatemake_Stream_Odd r88.2 100 599 r91 h92) rfl ⟨.inl rfl, .inl rfl, trivial⟩ rfl) rfl ?_
                  refine seq_run0 (stp_fldP tyF33_0 rfl) ?_
                  refine seq_run2 (stp_store1 tyS3 rfl rfl rfl rfl) rfl ?_
                  refine seq_end ?_
                  show Cv _ _ _ _
                  refine cv_in ?_
                  exact ⟨(r91.2.L, r91.2.at_, r91.1), H, ⟨rfl, rfl, trivial⟩, ⟨rfl, rfl, rfl, rfl, trivial⟩⟩
                · replace H := iff_ h90 H
                  refine awp_skip ?_
                  show Cv _ _ _ _
                  refine cv_in ?_
                  exact ⟨(r88.2.L, r88.2.at_, c86), H, ⟨rfl, rfl, trivial⟩, ⟨rfl, rfl, rfl, rfl, trivial⟩⟩
              · rintro ⟨c93, c94, c95⟩ H
                replace H : gatemake_Stream_CacheResponse_J7 l85 c87 c93 c94 c95 = some r := H
                unfold gatemake_Stream_CacheResponse_J7 at H
                refine awp_seq ?_
                refine awp_frzC 2 1 15 rfl rfl rfl (by rw [List.length_map]) ?_
                refine awp_plain hN rfl ?_
                refine seq_run1 (stp_loadA tyS33 rfl rfl rfl) rfl ?_
                refine seq_run2 (stp_storeW tyS33 rfl rfl rfl rfl) rfl ?_
                refine awp_ret ?_
                cases H
                exact ⟨trivial, ⟨.inl ⟨_, _, _, C_api_Response (S_api_Response.mk c95 l85 c87), rfl, rfl, rfl, rfl, tyS33⟩, trivial⟩, rfl⟩
theorem k_strings_TrimPrefix (s p : Bs) (r : Bs) (H : m_strings_TrimPrefix s p = some r) : Fn Tryz.prog 56 [vstr s, vstr p] (resOf [vstr r]) := by
  unfold m_strings_TrimPrefix at H
  cases H
  refine fn_of_callsG (by kernel_rfl) fun M w vs hM h => ?_
  have hv := Ts_vals (us := [.string ⟨s.toArray⟩, .string ⟨p.toArray⟩]) h
  subst hv
  refine (Tryz.strings_TrimPrefix ⟨s.toArray⟩ ⟨p.toArray⟩ w).mono ?_
  rintro e w' ⟨rfl, rfl⟩
  exact ⟨_, rfl, rfl, Kp.refl _ _⟩

end Go.Proofs.YtbicifgfibafmaaGreatDoor
