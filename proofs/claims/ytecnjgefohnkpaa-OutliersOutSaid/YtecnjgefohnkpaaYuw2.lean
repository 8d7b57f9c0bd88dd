/- Walks along the models. Printed by a program. -/
import Derived.Test.YtecnjgefohnkpaaYuw1
namespace Go.Proofs.Ytecnjgefohnkpaa
open Go.RowKit
set_option linter.unusedVariables false
set_option maxRecDepth 20000
set_option maxHeartbeats 2000000
theorem ku_upstream_standings_told (s1 : S_upstream_standings) (v2 : Int) (v3 : Int) (v4 : Int) (r : (S_upstream_standings)) (H : m_upstream_standings_told s1 v2 v3 v4 = some r) : FnG Try.prog 30 [.ptr 0 0, .dat (vint v2), .dat (vint v3), .dat (vint v4)] [(0, .box (some 0) 60 [.dat (vint s1.o_.Fails), .dat (vint s1.o_.Base), .dat (vint s1.o_.Most), .dat (vint s1.o_.Share), .row 1 s1.list_.length]), (1, .row 80 3 (List.map C_upstream_standing s1.list_))] (.dat (resOf [])) [(0, .box (some 0) 60 [.dat (vint r.o_.Fails), .dat (vint r.o_.Base), .dat (vint r.o_.Most), .dat (vint r.o_.Share), .row 900 r.list_.length]), (900, .row 80 3 (List.map C_upstream_standing r.list_))] := by
 refine fnG_of (by kernel_rfl) Try.func30 rfl rfl rfl rfl fun X A hN => ?_
 refine awp_cv ?_
 unfold m_upstream_standings_told at H
 refine awp_seq ?_
 refine awp_seq ?_
 refine awp_plain hN rfl ?_
 refine seq_run0 (stp_move (.ptr _ _) rfl) ?_
 refine qd rfl ?_
 refine qd rfl ?_
 obtain ⟨r5, h6, H⟩ := bnd H
 refine seq_callG (rn [(0, 0), (1, 1)]) [(0, _, _, some _), (1, _, _, some _)] [] (ku_upstream_standings_isOut s1 v2 v3 r5 h6) ⟨rfl, rfl, trivial⟩ ⟨.inl (.inl rfl), .inl (.inl rfl), .inl (.inl rfl), trivial⟩ ⟨⟨⟨rfl, rfl⟩, ⟨by rw [List.length_map], trivial⟩⟩, ⟨⟨rfl, rfl, rfl⟩, rfl⟩, trivial⟩ rfl ?_
 refine awp_cond _ rfl (fun h7 => ?_) (fun h7 => ?_)
 ·replace H := ift h7 H
  refine awp_ret ?_
  have eH : s1 = r := Option.some.inj H
  subst eH
  show Cv _ _ _ _
  refine cv_ren (rn [(1, 900)]) [] [(0, .box (some (A.bl 0)) 60 [.dat (vint s1.o_.Fails), .dat (vint s1.o_.Base), .dat (vint s1.o_.Most), .dat (vint s1.o_.Share), .row 1 s1.list_.length]), (1, .row 80 3 (List.map C_upstream_standing s1.list_))] trivial ⟨rfl, rfl, trivial⟩ rfl rfl ?_
  exact ⟨trivial, [], trivial, ⟨rfl, rfl, trivial⟩, rfl, .inl ⟨[], trivial, rfl⟩⟩
 ·replace H := iff_ h7 H
  refine awp_skip ?_
  refine awp_seq ?_
  refine awp_plain hN rfl ?_
  refine seq_run0 (stp_move (.ptr _ _) rfl) ?_
  refine seq_run0 (stp_nilP rfl) ?_
  refine seq_run0 (stp_fldP tyF60_1 rfl) ?_
  refine seq_run1 (stp_load1 tyS58 rfl rfl) rfl ?_
  refine qd rfl ?_
  obtain ⟨x8, h9, H⟩ := bnd H
  refine seq_run1 (t_idxRI tyE58 rfl rfl rfl h9) rfl ?_
  refine seq_run0 (stp_assign (.rptr _ _ _ _ _) rfl) ?_
  refine awp_seq ?_
  refine awp_seq ?_
  refine awp_plain hN rfl ?_
  refine qd rfl ?_
  obtain ⟨r10, h11, H⟩ := bnd H
  refine seq_run0 (stp_call (k_upstream_fails v4 r10 h11) ⟨.inl rfl, trivial⟩) ?_
  refine seq_run0 (stp_not rfl) ?_
  refine awp_cond _ rfl (fun h12 => ?_) (fun h12 => ?_)
  ·replace H := ift h12 H
   refine awp_seq ?_
   refine awp_plain hN rfl ?_
   refine seq_run0 (stp_move (.rptr _ _ _ _ _) rfl) ?_
   refine seq_run0 (stp_nilR rfl) ?_
   refine seq_run0 (stp_fldR tyF80_0 rfl) ?_
   refine seq_run2 (t_storeR (S_upstream_standing.mk 0 x8.until_ x8.times_) tyS3 rfl rfl rfl rfl (at_some h9).2 rfl rfl) rfl ?_
   refine awp_ret ?_
   cases H
   show Cv _ _ _ _
   refine cv_ren (rn [(1, 900)]) [] [(0, .box (some (A.bl 0)) 60 [.dat (vint s1.o_.Fails), .dat (vint s1.o_.Base), .dat (vint s1.o_.Most), .dat (vint s1.o_.Share), .row 1 s1.list_.length]), (1, .row 80 3 (List.map C_upstream_standing (s1.list_.set v2.toNat (S_upstream_standing.mk 0 x8.until_ x8.times_))))] trivial ⟨rfl, rfl, trivial⟩ rfl rfl ?_
   exact ⟨trivial, [], trivial, ⟨(congrArg (fun n => some (some (AObj.box (some (A.bl 0)) 60 [.dat (vint s1.o_.Fails), .dat (vint s1.o_.Base), .dat (vint s1.o_.Most), .dat (vint s1.o_.Share), .row 900 n]))) (show s1.list_.length = (s1.list_.set v2.toNat (S_upstream_standing.mk 0 x8.until_ x8.times_)).length from (by simp))), rfl, trivial⟩, rfl, .inl ⟨[], trivial, rfl⟩⟩
  ·replace H := iff_ h12 H
   refine awp_skip ?_
   refine awp_seq ?_
   refine awp_plain hN rfl ?_
   refine seq_run0 (stp_move (.rptr _ _ _ _ _) rfl) ?_
   refine seq_run0 (stp_nilR rfl) ?_
   refine seq_run0 (stp_fldR tyF80_0 rfl) ?_
   refine seq_run1 (t_loadR1 tyS3 rfl rfl (at_some h9).2 rfl) rfl ?_
   refine seq_run0 (stp_wrap _ rfl rfl (.inl ⟨rfl, rfl⟩)) ?_
   refine seq_run0 (stp_nilR rfl) ?_
   refine seq_run0 (stp_fldR tyF80_0 rfl) ?_
   refine seq_run2 (t_storeR (S_upstream_standing.mk (wr (x8.row_ + 1)) x8.until_ x8.times_) tyS3 rfl rfl rfl rfl (at_some h9).2 rfl rfl) rfl ?_
   refine awp_seq ?_
   refine awp_seq ?_
   refine awp_draw mixed hN rfl rfl ?_
   refine seq_run0 (stp_move (.rptr _ _ _ _ _) rfl) ?_
   refine seq_run0 (stp_nilR rfl) ?_
   refine seq_run0 (stp_fldR tyF80_0 rfl) ?_
   refine seq_run1 (t_loadR1 tyS3 rfl (by simp) (set_at (at_some h9).2) rfl) rfl ?_
   refine seq_run0 (stp_move (.ptr _ _) rfl) ?_
   refine seq_run0 (stp_nilP rfl) ?_
   refine seq_run0 (stp_fldP tyF60_0 rfl) ?_
   refine seq_run0 (stp_fldP tyF29_0 rfl) ?_
   refine seq_run1 (stp_load1 tyS3 rfl rfl) rfl ?_
   refine seq_run0 (stp_lss rfl rfl) ?_
   refine ⟨rfl, ?_⟩
   refine awp_cond _ rfl (fun h13 => ?_) (fun h13 => ?_)
   ·replace H := ift h13 H
    refine awp_ret ?_
    cases H
    show Cv _ _ _ _
    refine cv_ren (rn [(1, 900)]) [] [(0, .box (some (A.bl 0)) 60 [.dat (vint s1.o_.Fails), .dat (vint s1.o_.Base), .dat (vint s1.o_.Most), .dat (vint s1.o_.Share), .row 1 s1.list_.length]), (1, .row 80 3 (List.map C_upstream_standing (s1.list_.set v2.toNat (S_upstream_standing.mk (wr (x8.row_ + 1)) x8.until_ x8.times_))))] trivial ⟨rfl, rfl, trivial⟩ rfl rfl ?_
    exact ⟨trivial, [], trivial, ⟨(congrArg (fun n => some (some (AObj.box (some (A.bl 0)) 60 [.dat (vint s1.o_.Fails), .dat (vint s1.o_.Base), .dat (vint s1.o_.Most), .dat (vint s1.o_.Share), .row 900 n]))) (show s1.list_.length = (s1.list_.set v2.toNat (S_upstream_standing.mk (wr (x8.row_ + 1)) x8.until_ x8.times_)).length from (by simp))), rfl, trivial⟩, rfl, .inl ⟨[], trivial, rfl⟩⟩
   ·replace H := iff_ h13 H
    refine awp_skip ?_
    refine awp_seq ?_
    refine awp_plain hN rfl ?_
    refine seq_run0 (stp_move (.rptr _ _ _ _ _) rfl) ?_
    refine seq_run0 (stp_nilR rfl) ?_
    refine seq_run0 (stp_fldR tyF80_0 rfl) ?_
    refine seq_run2 (t_storeR (S_upstream_standing.mk 0 x8.until_ x8.times_) tyS3 rfl rfl rfl (by simp) (set_at (at_some h9).2) rfl rfl) rfl ?_
    refine awp_seq ?_
    refine awp_plain hN rfl ?_
    refine qe rfl ?_
    refine awp_seq ?_
    refine awp_seq ?_
    refine awp_plain hN rfl ?_
    refine seq_run0 (stp_move (.ptr _ _) rfl) ?_
    refine seq_run0 (stp_nilP rfl) ?_
    refine seq_run0 (stp_fldP tyF60_1 rfl) ?_
    refine seq_run1 (stp_load1 tyS58 rfl rfl) rfl ?_
    refine seq_run1 (t_lenR tyU58 rfl (by simp)) rfl ?_
    refine qd rfl ?_
    refine awp_block ?_
    obtain ⟨h17, H⟩ := gif H
    refine awp_rng (fun (k15 : Nat) (s : Int) => [(0, .ptr 0 0), (2, .dat (vint v3)), (8, .rptr 1 s1.list_.length 3 v2.toNat 0), (9, .dat (vint s)), (51, .dat (vint (((s1.list_.set v2.toNat (S_upstream_standing.mk (wr (x8.row_ + 1)) x8.until_ x8.times_)).set v2.toNat (S_upstream_standing.mk 0 x8.until_ x8.times_)).length : Int))), (52, .dat (vint (k15 : Int)))]) (fun (k15 : Nat) (s : Int) => [(0, .box (some (A.bl 0)) 60 [.dat (vint s1.o_.Fails), .dat (vint s1.o_.Base), .dat (vint s1.o_.Most), .dat (vint s1.o_.Share), .row 1 s1.list_.length]), (1, .row 80 3 (List.map C_upstream_standing ((s1.list_.set v2.toNat (S_upstream_standing.mk (wr (x8.row_ + 1)) x8.until_ x8.times_)).set v2.toNat (S_upstream_standing.mk 0 x8.until_ x8.times_))))]) 1 H ⟨rfl, rfl, rfl, rfl, rfl, rfl, trivial⟩ ⟨rfl, rfl, trivial⟩ (fun _ _ => rfl) ?_ ?_
    ·rintro v14 H
     replace H : upstream_standings_told_E1 s1 v2 v3 x8 v14 = some r := H
     unfold upstream_standings_told_E1 at H
     refine awp_seq ?_
     refine awp_plain hN rfl ?_
     refine seq_run0 (stp_lss rfl rfl) ?_
     refine awp_seq ?_
     refine awp_cond _ rfl (fun h => (lt_t h).elim) (fun h => ?_)
     refine awp_exit ?_
     refine awp_seq ?_
     refine awp_draw mixed hN rfl rfl ?_
     refine qd rfl ?_
     refine seq_run0 (stp_wrap _ rfl rfl (.inr (.inr ⟨rfl, rfl⟩))) ?_
     refine seq_run0 (stp_move (.ptr _ _) rfl) ?_
     refine seq_run0 (stp_nilP rfl) ?_
     refine seq_run0 (stp_fldP tyF60_0 rfl) ?_
     refine seq_run0 (stp_fldP tyF29_3 rfl) ?_
     refine seq_run1 (stp_load1 tyS3 rfl rfl) rfl ?_
     refine seq_run0 (stp_move (.ptr _ _) rfl) ?_
     refine seq_run0 (stp_nilP rfl) ?_
     refine seq_run0 (stp_fldP tyF60_1 rfl) ?_
     refine seq_run1 (stp_load1 tyS58 rfl rfl) rfl ?_
     refine seq_run1 (t_lenR tyU58 rfl (by simp)) rfl ?_
     refine seq_run0 (stp_wrap _ rfl rfl (.inr (.inr ⟨rfl, rfl⟩))) ?_
     refine seq_run0 (stp_leq rfl rfl) ?_
     refine ⟨rfl, ?_⟩
     refine awp_cond _ rfl (fun h18 => ?_) (fun h18 => ?_)
     ·replace H := ift h18 H
      refine awp_seq ?_
      refine awp_draw mixed hN rfl rfl ?_
      refine seq_run0 (stp_move (.rptr _ _ _ _ _) rfl) ?_
      refine qd rfl ?_
      refine seq_run0 (stp_move (.ptr _ _) rfl) ?_
      refine seq_run0 (stp_nilP rfl) ?_
      refine seq_run0 (stp_fldP tyF60_0 rfl) ?_
      refine seq_run0 (stp_fldP tyF29_1 rfl) ?_
      refine seq_run1 (stp_load1 tyS3 rfl rfl) rfl ?_
      refine seq_run0 (stp_move (.rptr _ _ _ _ _) rfl) ?_
      refine seq_run0 (stp_nilR rfl) ?_
      refine seq_run0 (stp_fldR tyF80_2 rfl) ?_
      refine seq_run1 (t_loadR1 tyS3 rfl (by simp) (set_at (set_at (at_some h9).2)) rfl) rfl ?_
      refine seq_run0 (stp_move (.ptr _ _) rfl) ?_
      refine seq_run0 (stp_nilP rfl) ?_
      refine seq_run0 (stp_fldP tyF60_0 rfl) ?_
      refine seq_run0 (stp_fldP tyF29_2 rfl) ?_
      refine seq_run1 (stp_load1 tyS3 rfl rfl) rfl ?_
      obtain ⟨r19, h20, H⟩ := bnd H
      refine seq_run0 (stp_call (k_upstream_doubled s1.o_.Base x8.times_ s1.o_.Most r19 h20) ⟨.inl rfl, .inl rfl, .inl rfl, trivial⟩) ?_
      refine seq_run0 (stp_wrap _ rfl rfl (.inl ⟨rfl, rfl⟩)) ?_
      refine seq_run0 (stp_nilR rfl) ?_
      refine seq_run0 (stp_fldR tyF80_1 rfl) ?_
      refine seq_run2 (t_storeR (S_upstream_standing.mk 0 (wr (v3 + r19)) x8.times_) tyS3 rfl rfl rfl (by simp) (set_at (set_at (at_some h9).2)) rfl rfl) rfl ?_
      refine ⟨rfl, ?_⟩
      refine awp_plain hN rfl ?_
      refine seq_run0 (stp_move (.rptr _ _ _ _ _) rfl) ?_
      refine seq_run0 (stp_nilR rfl) ?_
      refine seq_run0 (stp_fldR tyF80_2 rfl) ?_
      refine seq_run1 (t_loadR1 tyS3 rfl (by simp) (set_at (set_at (set_at (at_some h9).2))) rfl) rfl ?_
      refine seq_run0 (stp_wrap _ rfl rfl (.inl ⟨rfl, rfl⟩)) ?_
      refine seq_run0 (stp_nilR rfl) ?_
      refine seq_run0 (stp_fldR tyF80_2 rfl) ?_
      refine seq_run2 (t_storeR (S_upstream_standing.mk 0 (wr (v3 + r19)) (wr (x8.times_ + 1))) tyS3 rfl rfl rfl (by simp) (set_at (set_at (set_at (at_some h9).2))) rfl rfl) rfl ?_
      cases H
      show Cv _ _ _ _
      refine cv_ren (rn [(1, 900)]) [] [(0, .box (some (A.bl 0)) 60 [.dat (vint s1.o_.Fails), .dat (vint s1.o_.Base), .dat (vint s1.o_.Most), .dat (vint s1.o_.Share), .row 1 s1.list_.length]), (1, .row 80 3 (List.map C_upstream_standing ((((s1.list_.set v2.toNat (S_upstream_standing.mk (wr (x8.row_ + 1)) x8.until_ x8.times_)).set v2.toNat (S_upstream_standing.mk 0 x8.until_ x8.times_)).set v2.toNat (S_upstream_standing.mk 0 (wr (v3 + r19)) x8.times_)).set v2.toNat (S_upstream_standing.mk 0 (wr (v3 + r19)) (wr (x8.times_ + 1))))))] trivial ⟨rfl, rfl, trivial⟩ rfl rfl ?_
      exact ⟨trivial, [], trivial, ⟨(congrArg (fun n => some (some (AObj.box (some (A.bl 0)) 60 [.dat (vint s1.o_.Fails), .dat (vint s1.o_.Base), .dat (vint s1.o_.Most), .dat (vint s1.o_.Share), .row 900 n]))) (show s1.list_.length = ((((s1.list_.set v2.toNat (S_upstream_standing.mk (wr (x8.row_ + 1)) x8.until_ x8.times_)).set v2.toNat (S_upstream_standing.mk 0 x8.until_ x8.times_)).set v2.toNat (S_upstream_standing.mk 0 (wr (v3 + r19)) x8.times_)).set v2.toNat (S_upstream_standing.mk 0 (wr (v3 + r19)) (wr (x8.times_ + 1)))).length from (by simp))), rfl, trivial⟩, rfl, .inl ⟨[], trivial, rfl⟩⟩
     ·replace H := iff_ h18 H
      refine awp_skip ?_
      cases H
      show Cv _ _ _ _
      refine cv_ren (rn [(1, 900)]) [] [(0, .box (some (A.bl 0)) 60 [.dat (vint s1.o_.Fails), .dat (vint s1.o_.Base), .dat (vint s1.o_.Most), .dat (vint s1.o_.Share), .row 1 s1.list_.length]), (1, .row 80 3 (List.map C_upstream_standing ((s1.list_.set v2.toNat (S_upstream_standing.mk (wr (x8.row_ + 1)) x8.until_ x8.times_)).set v2.toNat (S_upstream_standing.mk 0 x8.until_ x8.times_))))] trivial ⟨rfl, rfl, trivial⟩ rfl rfl ?_
      exact ⟨trivial, [], trivial, ⟨(congrArg (fun n => some (some (AObj.box (some (A.bl 0)) 60 [.dat (vint s1.o_.Fails), .dat (vint s1.o_.Base), .dat (vint s1.o_.Most), .dat (vint s1.o_.Share), .row 900 n]))) (show s1.list_.length = ((s1.list_.set v2.toNat (S_upstream_standing.mk (wr (x8.row_ + 1)) x8.until_ x8.times_)).set v2.toNat (S_upstream_standing.mk 0 x8.until_ x8.times_)).length from (by simp))), rfl, trivial⟩, rfl, .inl ⟨[], trivial, rfl⟩⟩
    ·rintro k15 v14 q16 h21 H hq16
     replace H : upstream_standings_told_L1 s1 v2 v3 x8 k15 v14 = some q16 := H
     unfold upstream_standings_told_L1 at H
     refine awp_cv ?_
     refine awp_seq ?_
     refine awp_plain hN rfl ?_
     refine seq_run0 (stp_lss rfl rfl) ?_
     refine awp_seq ?_
     refine awp_cond _ rfl (fun h => ?_) (fun h => (lt_f h21 h).elim)
     refine awp_skip ?_
     refine awp_joinE (ι := Int) (fun i => [(0, .ptr 0 0), (2, .dat (vint v3)), (8, .rptr 1 s1.list_.length 3 v2.toNat 0), (9, .dat (vint i)), (51, .dat (vint (((s1.list_.set v2.toNat (S_upstream_standing.mk (wr (x8.row_ + 1)) x8.until_ x8.times_)).set v2.toNat (S_upstream_standing.mk 0 x8.until_ x8.times_)).length : Int))), (52, .dat (vint (k15 : Int)))]) (fun i => [(0, .box (some (A.bl 0)) 60 [.dat (vint s1.o_.Fails), .dat (vint s1.o_.Base), .dat (vint s1.o_.Most), .dat (vint s1.o_.Share), .row 1 (((s1.list_.set v2.toNat (S_upstream_standing.mk (wr (x8.row_ + 1)) x8.until_ x8.times_)).set v2.toNat (S_upstream_standing.mk 0 x8.until_ x8.times_)).length)]), (1, .row 80 3 (List.map C_upstream_standing ((s1.list_.set v2.toNat (S_upstream_standing.mk (wr (x8.row_ + 1)) x8.until_ x8.times_)).set v2.toNat (S_upstream_standing.mk 0 x8.until_ x8.times_))))]) (fun i => upstream_standings_told_J2 i = some q16) (fun i => rfl) ?_ ?_
     ·refine awp_cv ?_
      refine awp_block ?_
      refine awp_seq ?_
      refine awp_plain hN rfl ?_
      refine qd rfl ?_
      refine qe rfl ?_
      refine awp_seq ?_
      refine awp_plain hN rfl ?_
      refine seq_run0 (stp_move (.ptr _ _) rfl) ?_
      refine qd rfl ?_
      refine qd rfl ?_
      obtain ⟨r22, h23, H⟩ := bnd H
      refine seq_callG (rn [(0, 0), (1, 1)]) [(0, _, _, some _), (1, _, _, some _)] [] (ku_upstream_standings_isOut (S_upstream_standings.mk s1.o_ ((s1.list_.set v2.toNat (S_upstream_standing.mk (wr (x8.row_ + 1)) x8.until_ x8.times_)).set v2.toNat (S_upstream_standing.mk 0 x8.until_ x8.times_))) (k15 : Int) v3 r22 h23) ⟨rfl, rfl, trivial⟩ ⟨.inl (.inl rfl), .inl (.inl rfl), .inl (.inl rfl), trivial⟩ ⟨⟨⟨rfl, (congrArg (fun n => ([.dat (vint s1.o_.Fails), .dat (vint s1.o_.Base), .dat (vint s1.o_.Most), .dat (vint s1.o_.Share), .row 1 n] : List Slot)) (show s1.list_.length = ((s1.list_.set v2.toNat (S_upstream_standing.mk (wr (x8.row_ + 1)) x8.until_ x8.times_)).set v2.toNat (S_upstream_standing.mk 0 x8.until_ x8.times_)).length from (by simp)))⟩, ⟨by rw [List.length_map], trivial⟩⟩, ⟨⟨rfl, rfl, rfl⟩, rfl⟩, trivial⟩ rfl ?_
      refine awp_cond _ rfl (fun h24 => ?_) (fun h24 => ?_)
      ·replace H := ift h24 H
       refine awp_plain hN rfl ?_
       refine qd rfl ?_
       refine seq_run0 (stp_wrap _ rfl rfl (.inl ⟨rfl, rfl⟩)) ?_
       refine qe rfl ?_
       refine seq_end ?_
       show Cv _ _ _ _
       refine cv_in ?_
       exact ⟨wr (v14 + 1), H, ⟨rfl, rfl, rfl, rfl, rfl, rfl, trivial⟩, ⟨rfl, rfl, trivial⟩⟩
      ·replace H := iff_ h24 H
       refine awp_skip ?_
       show Cv _ _ _ _
       refine cv_in ?_
       exact ⟨v14, H, ⟨rfl, rfl, rfl, rfl, rfl, rfl, trivial⟩, ⟨rfl, rfl, trivial⟩⟩
     ·rintro v25 H
      replace H : upstream_standings_told_J2 v25 = some q16 := H
      unfold upstream_standings_told_J2 at H
      refine awp_plain hN rfl ?_
      refine seq_run0 (stp_add rfl rfl (by omega)) ?_
      refine qd rfl ?_
      refine seq_end ?_
      show Cv _ _ _ _
      refine cv_in ?_
      exact ⟨_, backl H, ⟨rfl, rfl, rfl, rfl, rfl, rfl, trivial⟩, ⟨(congrArg (fun n => some (some (AObj.box (some (A.bl 0)) 60 [.dat (vint s1.o_.Fails), .dat (vint s1.o_.Base), .dat (vint s1.o_.Most), .dat (vint s1.o_.Share), .row 1 n]))) (show ((s1.list_.set v2.toNat (S_upstream_standing.mk (wr (x8.row_ + 1)) x8.until_ x8.times_)).set v2.toNat (S_upstream_standing.mk 0 x8.until_ x8.times_)).length = s1.list_.length from (by simp))), rfl, trivial⟩⟩
theorem k_upstream_Out (v1 : (List S_api_Instance)) (v2 : S_api_Outliers) (v3 : (List S_api_Result)) (v4 : Int) (r : ((List Bs) × Int)) (H : m_upstream_Out v1 v2 v3 v4 = some r) : Fn Try.prog 8 [vlst (List.map C_api_Instance v1), vagg (C_api_Outliers v2), vlst (List.map C_api_Result v3), vint v4] (resOf [vlst (List.map C_string r.1), vint r.2]) := by
 refine ⟨by kernel_rfl, pure_of (us := [vlst (List.map C_string r.1), vint r.2]) Try.func8 rfl rfl rfl rfl fun X hN => ?_⟩
 unfold m_upstream_Out at H
 refine awp_seq ?_
 refine awp_plain hN rfl ?_
 refine seq_run2 (stp_boxA 1 rfl) rfl ?_
 refine qe rfl ?_
 refine qe rfl ?_
 refine awp_seq ?_
 refine awp_seq ?_
 refine awp_plain hN rfl ?_
 refine qd rfl ?_
 obtain ⟨r5, h6, H⟩ := bnd H
 refine seq_run0 (stp_call (k_upstream_CheckInstances v1 r5 h6) ⟨.inl rfl, trivial⟩) ?_
 refine qe rfl ?_
 refine awp_seq ?_
 refine awp_plain hN rfl ?_
 refine qd rfl ?_
 refine seq_run0 (stp_neq rfl rfl) ?_
 refine awp_cond _ rfl (fun h7 => ?_) (fun h7 => ?_)
 ·replace H := ift h7 H
  refine awp_seq ?_
  refine awp_plain hN rfl ?_
  refine qd rfl ?_
  refine qe rfl ?_
  refine qe rfl ?_
  refine awp_ret ?_
  cases H
  exact ⟨trivial, .inr ⟨rfl, rfl⟩, .inl rfl, trivial⟩
 ·replace H := iff_ h7 H
  refine awp_skip ?_
  refine awp_seq ?_
  refine awp_seq ?_
  refine awp_plain hN rfl ?_
  refine seq_run1 (stp_loadA tyS29 rfl rfl rfl) rfl ?_
  obtain ⟨r8, h9, H⟩ := bnd H
  refine seq_run0 (stp_call (k_upstream_outliersFault v2 r8 h9) ⟨.inl rfl, trivial⟩) ?_
  refine qe rfl ?_
  refine awp_seq ?_
  refine awp_plain hN rfl ?_
  refine qd rfl ?_
  refine seq_run0 (stp_neq rfl rfl) ?_
  refine awp_cond _ rfl (fun h10 => ?_) (fun h10 => ?_)
  ·replace H := ift h10 H
   refine awp_seq ?_
   refine awp_plain hN rfl ?_
   refine qd rfl ?_
   refine qe rfl ?_
   refine qe rfl ?_
   refine awp_ret ?_
   cases H
   exact ⟨trivial, .inr ⟨rfl, rfl⟩, .inl rfl, trivial⟩
  ·replace H := iff_ h10 H
   refine awp_skip ?_
   refine awp_seq ?_
   refine awp_seq ?_
   refine awp_plain hN rfl ?_
   refine qd rfl ?_
   refine qd rfl ?_
   obtain ⟨r11, h12, H⟩ := bnd H
   refine seq_run0 (stp_call (k_upstream_CheckResults v1 v3 r11 h12) ⟨.inl rfl, .inl rfl, trivial⟩) ?_
   refine qe rfl ?_
   refine awp_seq ?_
   refine awp_plain hN rfl ?_
   refine qd rfl ?_
   refine seq_run0 (stp_neq rfl rfl) ?_
   refine awp_cond _ rfl (fun h13 => ?_) (fun h13 => ?_)
   ·replace H := ift h13 H
    refine awp_seq ?_
    refine awp_plain hN rfl ?_
    refine qd rfl ?_
    refine qe rfl ?_
    refine qe rfl ?_
    refine awp_ret ?_
    cases H
    exact ⟨trivial, .inr ⟨rfl, rfl⟩, .inl rfl, trivial⟩
   ·replace H := iff_ h13 H
    refine awp_skip ?_
    refine awp_seq ?_
    refine awp_seq ?_
    refine awp_plain hN rfl ?_
    refine qd rfl ?_
    obtain ⟨r14, h15, H⟩ := bnd H
    refine seq_run0 (stp_call (k_kit_IsMoment v4 r14 h15) ⟨.inl rfl, trivial⟩) ?_
    refine seq_run0 (stp_not rfl) ?_
    refine awp_cond _ rfl (fun h16 => ?_) (fun h16 => ?_)
    ·replace H := ift h16 H
     refine awp_seq ?_
     refine awp_plain hN rfl ?_
     refine qe rfl ?_
     refine qe rfl ?_
     refine awp_ret ?_
     cases H
     exact ⟨trivial, .inr ⟨rfl, rfl⟩, .inl rfl, trivial⟩
    ·replace H := iff_ h16 H
     refine awp_skip ?_
     refine awp_seq ?_
     refine awp_draw mixed hN rfl rfl ?_
     refine seq_run1 (stp_loadA tyS29 rfl rfl rfl) rfl ?_
     refine qd rfl ?_
     refine seq_run0 (t_len tyU26 rfl) ?_
     obtain ⟨h17, H⟩ := gif H
     refine seq_run2 (t_make (C := C_upstream_standing) 2 (S_upstream_standing.mk 0 0 0) tyL58 tyZ80 rfl rfl rfl rfl h17 rfl) rfl ?_
     refine seq_run1 (stp_slot (s' := .comp false [.dat (vint v2.Fails), .dat (vint v2.Base), .dat (vint v2.Most), .dat (vint v2.Share), .row 2 v1.length]) (stp_buildC [(2, some (some (.row 80 3 (List.map C_upstream_standing (List.replicate v1.length (S_upstream_standing.mk 0 0 0))))))] [(0, (C_api_Outliers v2).map .dat), (4, [.row 2 _])] tyZ60 tyP60 rfl ⟨rfl, .inl ⟨_, .inr rfl, rfl⟩, rfl, rfl, .inr (.inl ⟨_, _, _, _, _, rfl, .head _, (by rw [List.length_map]; exact (by simp)), rfl⟩), rfl, trivial⟩) rfl) rfl ?_
     refine seq_run2 (stp_boxC 3 rfl) rfl ?_
     refine seq_run0 (stp_assign (.ptr _ _) rfl) ?_
     refine ⟨rfl, ?_⟩
     refine awp_seq ?_
     refine awp_seq ?_
     refine awp_plain hN rfl ?_
     refine qd rfl ?_
     refine seq_run0 (t_len tyU32 rfl) ?_
     refine qd rfl ?_
     refine awp_block ?_
     obtain ⟨h25, H⟩ := gif H
     refine awp_forL (fun (k23 : Nat) (s : (List S_upstream_standing) × Int × Int × Int × Int) => [(0, .dat (vlst (List.map C_api_Instance v1))), (3, .dat (vint v4)), (13, .ptr 3 0), (46, .dat (vlst (List.map C_api_Result v3))), (47, .dat (vint (v3.length : Int))), (48, .dat (vint (k23 : Int)))]) (fun (k23 : Nat) (s : (List S_upstream_standing) × Int × Int × Int × Int) => [(2, .row 80 3 (List.map C_upstream_standing s.1)), (3, .box none 60 [.dat (vint s.2.1), .dat (vint s.2.2.1), .dat (vint s.2.2.2.1), .dat (vint s.2.2.2.2), .row 2 s.1.length])]) ((List.replicate v1.length (S_upstream_standing.mk 0 0 0)), v2.Fails, v2.Base, v2.Most, v2.Share) H ⟨rfl, rfl, rfl, rfl, rfl, rfl, trivial⟩ ⟨rfl, (congrArg (fun n => some (some (AObj.box none 60 [.dat (vint v2.Fails), .dat (vint v2.Base), .dat (vint v2.Most), .dat (vint v2.Share), .row 2 n]))) (show v1.length = (List.replicate v1.length (S_upstream_standing.mk 0 0 0)).length from (by simp))), trivial⟩ (fun _ _ => rfl) ?_ ?_
     ·rintro ⟨l18, c19, c20, c21, c22⟩ H
      replace H : upstream_Out_E1 v1 v4 l18 c19 c20 c21 c22 = some r := H
      unfold upstream_Out_E1 at H
      refine awp_seq ?_
      refine awp_plain hN rfl ?_
      refine seq_run0 (stp_lss rfl rfl) ?_
      refine awp_seq ?_
      refine awp_cond _ rfl (fun h => (lt_t h).elim) (fun h => ?_)
      refine awp_exit ?_
      refine awp_seq ?_
      refine awp_plain hN rfl ?_
      refine qe rfl ?_
      refine awp_seq ?_
      refine awp_seq ?_
      refine awp_plain hN rfl ?_
      refine qd rfl ?_
      refine seq_run0 (t_len tyU26 rfl) ?_
      refine qd rfl ?_
      refine awp_block ?_
      refine awp_nilrow 18 4 9 1 rfl rfl rfl ?_
      obtain ⟨h30, H⟩ := gif H
      refine awp_forL (fun (k28 : Nat) (s : (List Bs)) => [(3, .dat (vint v4)), (13, .ptr 3 0), (18, .row 4 s.length), (71, .dat (vlst (List.map C_api_Instance v1))), (72, .dat (vint (v1.length : Int))), (73, .dat (vint (k28 : Int)))]) (fun (k28 : Nat) (s : (List Bs)) => [(2, .row 80 3 (List.map C_upstream_standing l18)), (3, .box none 60 [.dat (vint c19), .dat (vint c20), .dat (vint c21), .dat (vint c22), .row 2 l18.length]), (4, .row 9 1 (List.map C_string s))]) [] H ⟨rfl, rfl, rfl, rfl, rfl, rfl, trivial⟩ ⟨rfl, rfl, rfl, trivial⟩ (fun _ _ => rfl) ?_ ?_
      ·rintro l27 H
       replace H : upstream_Out_E2 l27 = some r := H
       unfold upstream_Out_E2 at H
       refine awp_seq ?_
       refine awp_plain hN rfl ?_
       refine seq_run0 (stp_lss rfl rfl) ?_
       refine awp_seq ?_
       refine awp_cond _ rfl (fun h => (lt_t h).elim) (fun h => ?_)
       refine awp_exit ?_
       refine awp_seq ?_
       refine awp_plain hN rfl ?_
       refine seq_run0 (stp_move (.row _ _) rfl) ?_
       refine seq_run0 (stp_assign (.row _ _) rfl) ?_
       refine qe rfl ?_
       refine awp_ret ?_
       cases H
       exact ⟨trivial, t_slotv rfl rfl, .inl rfl, trivial⟩
      ·rintro k28 x31 l27 q29 h32 h33 H hq29
       replace H : upstream_Out_L2 v4 l18 c19 c20 c21 c22 k28 x31 l27 = some q29 := H
       unfold upstream_Out_L2 at H
       refine awp_cv ?_
       refine awp_seq ?_
       refine awp_plain hN rfl ?_
       refine seq_run0 (stp_lss rfl rfl) ?_
       refine awp_seq ?_
       refine awp_cond _ rfl (fun h => ?_) (fun h => (lt_f h32 h).elim)
       refine awp_skip ?_
       refine awp_joinE (ι := (List Bs)) (fun i => [(3, .dat (vint v4)), (13, .ptr 3 0), (18, .row 4 i.length), (71, .dat (vlst (List.map C_api_Instance v1))), (72, .dat (vint (v1.length : Int))), (73, .dat (vint (k28 : Int)))]) (fun i => [(2, .row 80 3 (List.map C_upstream_standing l18)), (3, .box none 60 [.dat (vint c19), .dat (vint c20), .dat (vint c21), .dat (vint c22), .row 2 l18.length]), (4, .row 9 1 (List.map C_string i))]) (fun i => upstream_Out_J3 i = some q29) (fun i => rfl) ?_ ?_
       ·refine awp_cv ?_
        refine awp_block ?_
        refine awp_seq ?_
        refine awp_plain hN rfl ?_
        refine qd rfl ?_
        refine seq_run0 (t_idx tyE26 (fun _ => rfl) rfl rfl h33) ?_
        refine seq_run0 (stp_loadEA tyS50 rfl (map_at h33) rfl) ?_
        refine seq_run2 (stp_alloc 5 tyZ50 rfl) rfl ?_
        refine qe rfl ?_
        refine seq_run2 (stp_storeW tyS50 rfl rfl rfl rfl) rfl ?_
        refine awp_seq ?_
        refine awp_plain hN rfl ?_
        refine seq_run0 (stp_move (.ptr _ _) rfl) ?_
        refine qd rfl ?_
        refine qd rfl ?_
        obtain ⟨r34, h35, H⟩ := bnd H
        refine seq_callG (rn [(0, 3), (1, 2)]) [(0, _, _, some _), (1, _, _, some _)] [] (ku_upstream_standings_isOut (S_upstream_standings.mk (S_api_Outliers.mk c19 c20 c21 c22) l18) (k28 : Int) v4 r34 h35) ⟨rfl, rfl, trivial⟩ ⟨.inl (.inl rfl), .inl (.inl rfl), .inl (.inl rfl), trivial⟩ ⟨⟨⟨rfl, rfl⟩, ⟨by rw [List.length_map], trivial⟩⟩, ⟨⟨rfl, rfl, rfl⟩, rfl⟩, trivial⟩ rfl ?_
        refine awp_cond _ rfl (fun h36 => ?_) (fun h36 => ?_)
        ·replace H := ift h36 H
         refine awp_plain hN rfl ?_
         refine seq_run0 (stp_move (.row _ _) rfl) ?_
         refine seq_run0 (stp_fldP tyF50_0 rfl) ?_
         refine seq_run1 (stp_load1 tyS9 rfl rfl) rfl ?_
         refine seq_run0 (stp_dat (u' := vlst (List.map C_string [x31.Key])) (stp_lit [[_]] tyL34 ⟨rfl, .inl ⟨_, rfl, rfl, rfl⟩, rfl, trivial⟩ rfl rfl) rfl) ?_
         obtain ⟨h37, H⟩ := gif H
         refine seq_run2 (t_app tyL34 (fun _ => rfl) rfl rfl rfl ⟨by simp, by first | (simp; done) | simpa using h37⟩ rfl) rfl ?_
         refine seq_run0 (stp_assign (.row _ _) rfl) ?_
         refine seq_end ?_
         show Cv _ _ _ _
         refine cv_in ?_
         exact ⟨(l27 ++ [x31.Key]), H, ⟨rfl, rfl, rfl, rfl, rfl, rfl, trivial⟩, ⟨rfl, rfl, rfl, trivial⟩⟩
        ·replace H := iff_ h36 H
         refine awp_skip ?_
         show Cv _ _ _ _
         refine cv_in ?_
         exact ⟨l27, H, ⟨rfl, rfl, rfl, rfl, rfl, rfl, trivial⟩, ⟨rfl, rfl, rfl, trivial⟩⟩
       ·rintro v38 H
        replace H : upstream_Out_J3 v38 = some q29 := H
        unfold upstream_Out_J3 at H
        refine awp_plain hN rfl ?_
        refine seq_run0 (stp_add rfl rfl (by omega)) ?_
        refine qd rfl ?_
        refine seq_end ?_
        show Cv _ _ _ _
        refine cv_in ?_
        exact ⟨_, backl H, ⟨rfl, rfl, rfl, rfl, rfl, rfl, trivial⟩, ⟨rfl, rfl, rfl, trivial⟩⟩
     ·rintro k23 x26 ⟨l18, c19, c20, c21, c22⟩ q24 h39 h40 H hq24
      replace H : upstream_Out_L1 v1 v4 k23 x26 l18 c19 c20 c21 c22 = some q24 := H
      unfold upstream_Out_L1 at H
      refine awp_cv ?_
      refine awp_seq ?_
      refine awp_plain hN rfl ?_
      refine seq_run0 (stp_lss rfl rfl) ?_
      refine awp_seq ?_
      refine awp_cond _ rfl (fun h => ?_) (fun h => (lt_f h39 h).elim)
      refine awp_skip ?_
      refine awp_joinE (ι := (List S_upstream_standing) × Int × Int × Int × Int) (fun i => [(0, .dat (vlst (List.map C_api_Instance v1))), (3, .dat (vint v4)), (13, .ptr 3 0), (46, .dat (vlst (List.map C_api_Result v3))), (47, .dat (vint (v3.length : Int))), (48, .dat (vint (k23 : Int)))]) (fun i => [(3, .box none 60 [.dat (vint i.2.1), .dat (vint i.2.2.1), .dat (vint i.2.2.2.1), .dat (vint i.2.2.2.2), .row 8 i.1.length]), (8, .row 80 3 (List.map C_upstream_standing i.1))]) (fun i => upstream_Out_J4 i.1 i.2.1 i.2.2.1 i.2.2.2.1 i.2.2.2.2 = some q24) (fun i => rfl) ?_ ?_
      ·refine awp_cv ?_
       refine awp_block ?_
       refine awp_seq ?_
       refine awp_plain hN rfl ?_
       refine seq_run0 (t_idx tyE32 (fun _ => rfl) rfl rfl h40) ?_
       refine seq_run0 (stp_loadEA tyS56 rfl (map_at h40) rfl) ?_
       refine seq_run2 (stp_alloc 6 tyZ56 rfl) rfl ?_
       refine seq_run2 (stp_storeW tyS56 rfl rfl rfl rfl) rfl ?_
       refine awp_seq ?_
       refine awp_plain hN rfl ?_
       refine seq_run0 (stp_fldP tyF56_0 rfl) ?_
       refine seq_run1 (stp_load1 tyS3 rfl rfl) rfl ?_
       refine qd rfl ?_
       refine seq_run0 (stp_leq rfl rfl) ?_
       refine awp_cond _ rfl (fun h41 => ?_) (fun h41 => ?_)
       ·replace H := ift h41 H
        refine awp_seq ?_
        refine awp_plain hN rfl ?_
        refine qd rfl ?_
        refine seq_run0 (stp_fldP tyF56_1 rfl) ?_
        refine seq_run1 (stp_load1 tyS9 rfl rfl) rfl ?_
        obtain ⟨r42, h43, H⟩ := bnd H
        refine seq_run0 (stp_call (k_upstream_place v1 x26.Instance r42 h43) ⟨.inl rfl, .inl rfl, trivial⟩) ?_
        refine qd rfl ?_
        refine seq_run0 (stp_ext rfl rfl) ?_
        refine seq_run0 (stp_ext rfl rfl) ?_
        refine qe rfl ?_
        refine qe rfl ?_
        refine awp_plain hN rfl ?_
        refine seq_run0 (stp_move (.ptr _ _) rfl) ?_
        refine qd rfl ?_
        refine seq_run0 (stp_fldP tyF56_0 rfl) ?_
        refine seq_run1 (stp_load1 tyS3 rfl rfl) rfl ?_
        refine seq_run0 (stp_fldP tyF56_2 rfl) ?_
        refine seq_run1 (stp_load1 tyS3 rfl rfl) rfl ?_
        obtain ⟨r44, h45, H⟩ := bnd H
        refine seq_callG (rn [(0, 3), (1, 2), (900, 7)]) [(0, _, _, some _), (1, _, _, none)] [(900, _)] (ku_upstream_standings_told (S_upstream_standings.mk (S_api_Outliers.mk c19 c20 c21 c22) l18) r42.1 x26.At x26.Status r44 h45) ⟨rfl, rfl, rfl, trivial⟩ ⟨.inl (.inl rfl), .inl (.inl rfl), .inl (.inl rfl), .inl (.inl rfl), trivial⟩ ⟨⟨⟨rfl, rfl⟩, trivial⟩, ⟨⟨rfl, rfl, rfl⟩, trivial⟩, trivial⟩ rfl ?_
        refine seq_end ?_
        show Cv _ _ _ _
        refine cv_ren (rn [(7, 8)]) [(0, .dat (vlst (List.map C_api_Instance v1))), (3, .dat (vint v4)), (13, .ptr 3 0), (46, .dat (vlst (List.map C_api_Result v3))), (47, .dat (vint (v3.length : Int))), (48, .dat (vint (k23 : Int)))] [(3, .box none 60 [.dat (vint r44.o_.Fails), .dat (vint r44.o_.Base), .dat (vint r44.o_.Most), .dat (vint r44.o_.Share), .row 7 r44.list_.length]), (7, .row 80 3 (List.map C_upstream_standing r44.list_))] ⟨rfl, rfl, rfl, rfl, rfl, rfl, trivial⟩ ⟨rfl, rfl, trivial⟩ rfl rfl ?_
        exact ⟨(r44.list_, r44.o_.Fails, r44.o_.Base, r44.o_.Most, r44.o_.Share), H, ⟨rfl, rfl, rfl, rfl, rfl, rfl, trivial⟩, ⟨rfl, rfl, trivial⟩⟩
       ·replace H := iff_ h41 H
        refine awp_skip ?_
        show Cv _ _ _ _
        refine cv_ren (rn [(2, 8)]) [(0, .dat (vlst (List.map C_api_Instance v1))), (3, .dat (vint v4)), (13, .ptr 3 0), (46, .dat (vlst (List.map C_api_Result v3))), (47, .dat (vint (v3.length : Int))), (48, .dat (vint (k23 : Int)))] [(3, .box none 60 [.dat (vint c19), .dat (vint c20), .dat (vint c21), .dat (vint c22), .row 2 l18.length]), (2, .row 80 3 (List.map C_upstream_standing l18))] ⟨rfl, rfl, rfl, rfl, rfl, rfl, trivial⟩ ⟨rfl, rfl, trivial⟩ rfl rfl ?_
        exact ⟨(l18, c19, c20, c21, c22), H, ⟨rfl, rfl, rfl, rfl, rfl, rfl, trivial⟩, ⟨rfl, rfl, trivial⟩⟩
      ·rintro ⟨l46, c47, c48, c49, c50⟩ H
       replace H : upstream_Out_J4 l46 c47 c48 c49 c50 = some q24 := H
       unfold upstream_Out_J4 at H
       refine awp_plain hN rfl ?_
       refine seq_run0 (stp_add rfl rfl (by omega)) ?_
       refine qd rfl ?_
       refine seq_end ?_
       show Cv _ _ _ _
       refine cv_ren (rn [(8, 2)]) [(0, .dat (vlst (List.map C_api_Instance v1))), (3, .dat (vint v4)), (13, .ptr 3 0), (46, .dat (vlst (List.map C_api_Result v3))), (47, .dat (vint (v3.length : Int))), (48, .dat (vint ((k23 : Int) + 1)))] [(8, .row 80 3 (List.map C_upstream_standing l46)), (3, .box none 60 [.dat (vint c47), .dat (vint c48), .dat (vint c49), .dat (vint c50), .row 8 l46.length])] ⟨rfl, rfl, rfl, rfl, rfl, rfl, trivial⟩ ⟨rfl, rfl, trivial⟩ rfl rfl ?_
       exact ⟨_, backl H, ⟨rfl, rfl, rfl, rfl, rfl, rfl, trivial⟩, ⟨rfl, rfl, trivial⟩⟩
theorem k_gateref2_in (n1 : Int) (low2 : Int) (high3 : Int) (r : (Bool)) (H : m_gateref2_in n1 low2 high3 = some r) : Fn Try.prog 33 [vint n1, vint low2, vint high3] (resOf [vbool r]) := by
 refine ⟨by kernel_rfl, pure_of (us := [vbool r]) Try.func33 rfl rfl rfl rfl fun X hN => ?_⟩
 unfold m_gateref2_in at H
 refine awp_seq ?_
 refine awp_plain hN rfl ?_
 refine qe rfl ?_
 refine awp_seq ?_
 refine awp_plain hN rfl ?_
 refine qd rfl ?_
 refine qd rfl ?_
 refine seq_run0 (stp_leq rfl rfl) ?_
 refine qd rfl ?_
 refine seq_aT rfl rfl (fun hc => stp_move (.dat _) rfl) ?_
 refine seq_aT rfl rfl (fun hc => stp_move (.dat _) rfl) ?_
 refine seq_aT rfl rfl (fun hc => stp_leq (cnd (c := (decide (low2 ≤ n1))) hc) (cnd (c := (decide (low2 ≤ n1))) hc)) ?_
 refine seq_run0 (stp_pick_and rfl (fun hb => (cnd (c := (decide (low2 ≤ n1))) hb)) rfl) ?_
 refine qe rfl ?_
 refine awp_ret ?_
 cases H
 exact ⟨trivial, .inl rfl, trivial⟩
theorem k_strings_IndexByte (l : Bs) (c r : Int) (H : m_strings_IndexByte l c = some r) : Fn Try.prog 55 [vstr l, vval (.int .u8 c)] (resOf [vint r]) := by
 cases H
 refine fn_of_calls (by kernel_rfl) fun M w vs h => ?_
 have h1 := Ts_vals (us := [.string ⟨l.toArray⟩, .int .u8 c]) h
 subst h1
 refine (Try.strings_IndexByte ⟨l.toArray⟩ c w).mono ?_
 rintro e w' ⟨rfl, rfl⟩
 exact ⟨_, rfl, rfl, Kp.refl _ _⟩
theorem k_gateref2_only (s1 : Bs) (some2 : Bs) (r : (Bool)) (H : m_gateref2_only s1 some2 = some r) : Fn Try.prog 49 [vstr s1, vstr some2] (resOf [vbool r]) := by
 refine ⟨by kernel_rfl, pure_of (us := [vbool r]) Try.func49 rfl rfl rfl rfl fun X hN => ?_⟩
 unfold m_gateref2_only at H
 refine awp_seq ?_
 refine awp_plain hN rfl ?_
 refine qe rfl ?_
 refine awp_seq ?_
 refine awp_seq ?_
 refine awp_plain hN rfl ?_
 refine qd rfl ?_
 refine seq_run0 (stp_len_str tyU9 rfl) ?_
 refine qd rfl ?_
 refine awp_block ?_
 obtain ⟨h5, H⟩ := gif H
 refine awp_forL (fun (k3 : Nat) (s : Unit) => [(0, .dat (vstr s1)), (1, .dat (vstr some2)), (7, .dat (vint (s1.length : Int))), (8, .dat (vint (k3 : Int)))]) (fun (k3 : Nat) (s : Unit) => []) () H ⟨rfl, rfl, rfl, rfl, trivial⟩ trivial (fun _ _ => rfl) ?_ ?_
 ·rintro ⟨⟩ H
  replace H : gateref2_only_E1 = some r := H
  unfold gateref2_only_E1 at H
  refine awp_seq ?_
  refine awp_plain hN rfl ?_
  refine seq_run0 (stp_lss rfl rfl) ?_
  refine awp_seq ?_
  refine awp_cond _ rfl (fun h => (lt_t h).elim) (fun h => ?_)
  refine awp_exit ?_
  refine awp_seq ?_
  refine awp_plain hN rfl ?_
  refine qe rfl ?_
  refine awp_ret ?_
  cases H
  exact ⟨trivial, .inl rfl, trivial⟩
 ·rintro k3 x6 ⟨⟩ q4 h7 h8 H hq4
  replace H : gateref2_only_L1 some2 k3 x6 = some q4 := H
  unfold gateref2_only_L1 at H
  refine awp_seq ?_
  refine awp_plain hN rfl ?_
  refine seq_run0 (stp_lss rfl rfl) ?_
  refine awp_seq ?_
  refine awp_cond _ rfl (fun h => ?_) (fun h => (lt_f h7 h).elim)
  refine awp_skip ?_
  refine awp_seq ?_
  refine awp_block ?_
  refine awp_seq ?_
  refine awp_plain hN rfl ?_
  refine qd rfl ?_
  refine qe rfl ?_
  refine awp_seq ?_
  refine awp_plain hN rfl ?_
  refine qd rfl ?_
  refine qd rfl ?_
  refine qd rfl ?_
  refine seq_run0 (t_byte tyU9 rfl rfl h8) ?_
  obtain ⟨r9, h10, H⟩ := bnd H
  refine seq_run0 (stp_call (k_strings_IndexByte some2 (x6.toNat : Int) r9 h10) ⟨.inl rfl, .inl rfl, trivial⟩) ?_
  refine seq_run0 (stp_lss rfl rfl) ?_
  refine awp_cond _ rfl (fun h11 => ?_) (fun h11 => ?_)
  ·replace H := ift h11 H
   refine awp_seq ?_
   refine awp_plain hN rfl ?_
   refine qe rfl ?_
   refine awp_ret ?_
   replace H := retl H hq4
   cases H
   exact ⟨trivial, .inl rfl, trivial⟩
  ·replace H := iff_ h11 H
   refine awp_skip ?_
   refine awp_plain hN rfl ?_
   refine seq_run0 (stp_add rfl rfl (by omega)) ?_
   refine qd rfl ?_
   exact ⟨_, backl H, ⟨rfl, rfl, rfl, rfl, trivial⟩, trivial⟩
theorem k_gateref2_Key (s1 : Bs) (r : (Bool)) (H : m_gateref2_Key s1 = some r) : Fn Try.prog 32 [vstr s1] (resOf [vbool r]) := by
 refine ⟨by kernel_rfl, pure_of (us := [vbool r]) Try.func32 rfl rfl rfl rfl fun X hN => ?_⟩
 unfold m_gateref2_Key at H
 refine awp_seq ?_
 refine awp_plain hN rfl ?_
 refine qe rfl ?_
 refine awp_joinE (ι := Bool) (fun i => [(2, .dat (vbool i))]) (fun i => []) (fun i => gateref2_Key_J1 i = some r) (fun i => rfl) ?_ ?_
 ·skip
  refine awp_plain hN rfl ?_
  refine qd rfl ?_
  refine seq_run0 (stp_len_str tyU9 rfl) ?_
  obtain ⟨r2, h3, H⟩ := bnd H
  refine seq_run0 (stp_call (k_gateref2_in (s1.length : Int) 1 40 r2 h3) ⟨.inl rfl, .inl rfl, .inl rfl, trivial⟩) ?_
  refine qd rfl ?_
  refine seq_split (j := 3) rfl rfl (fun h4 => ?_) (fun h4 => ?_) rfl
  ·have h5 := un1 h4
   replace H := ift h5 H
   refine seq_g0 rfl rfl h4 (stp_move (.dat _) rfl) ?_
   obtain ⟨l6, h7, H⟩ := bnd H
   refine seq_g0 rfl rfl h4 (t_subS tyU9 rfl rfl rfl h7) ?_
   obtain ⟨r8, h9, H⟩ := bnd H
   refine seq_g0 rfl rfl h4 (stp_call (k_gateref2_only l6 [97, 98, 99, 100, 101, 102, 103, 104, 105, 106, 107, 108, 109, 110, 111, 112, 113, 114, 115, 116, 117, 118, 119, 120, 121, 122] r8 h9) ⟨.inl rfl, .inl rfl, trivial⟩) ?_
   refine seq_run0 (stp_pick_t rfl (bTT h5) rfl) ?_
   refine qd rfl ?_
   refine seq_split (j := 8) rfl rfl (fun h10 => ?_) (fun h10 => ?_) rfl
   ·have h11 := un1 h10
    replace H := ift h11 H
    refine seq_g0 rfl rfl h10 (stp_move (.dat _) rfl) ?_
    obtain ⟨r12, h13, H⟩ := bnd H
    refine seq_g0 rfl rfl h10 (stp_call (k_gateref2_only s1 [97, 98, 99, 100, 101, 102, 103, 104, 105, 106, 107, 108, 109, 110, 111, 112, 113, 114, 115, 116, 117, 118, 119, 120, 121, 122, 48, 49, 50, 51, 52, 53, 54, 55, 56, 57, 45, 95] r12 h13) ⟨.inl rfl, .inl rfl, trivial⟩) ?_
    refine seq_run0 (stp_pick_t rfl (bTT h11) rfl) ?_
    refine qe rfl ?_
    exact ⟨r12, H, ⟨rfl, trivial⟩, trivial⟩
   ·have h14 := un2 h10
    replace H := iff_ h14 H
    refine seq_skip rfl rfl h10 ?_
    refine seq_skip rfl rfl h10 ?_
    refine seq_run0 (stp_pick_f rfl (bFF h14) rfl) ?_
    refine qe rfl ?_
    exact ⟨false, H, ⟨rfl, trivial⟩, trivial⟩
  ·have h15 := un2 h4
   replace H := iff_ h15 H
   refine seq_skip rfl rfl h4 ?_
   refine seq_skip rfl rfl h4 ?_
   refine seq_skip rfl rfl h4 ?_
   refine seq_run0 (stp_pick_f rfl (bFF h15) rfl) ?_
   refine qd rfl ?_
   refine seq_skip rfl rfl rfl ?_
   refine seq_skip rfl rfl rfl ?_
   refine seq_run0 (stp_pick_f rfl rfl rfl) ?_
   refine qe rfl ?_
   exact ⟨false, H, ⟨rfl, trivial⟩, trivial⟩
 ·rintro v16 H
  replace H : gateref2_Key_J1 v16 = some r := H
  unfold gateref2_Key_J1 at H
  refine awp_ret ?_
  cases H
  exact ⟨trivial, .inl rfl, trivial⟩
theorem k_gateref2_InstancesFault (l1 : (List S_api_Instance)) (r : (Int)) (H : m_gateref2_InstancesFault l1 = some r) : Fn Try.prog 9 [vlst (List.map C_api_Instance l1)] (resOf [vint r]) := by
 refine ⟨by kernel_rfl, pure_of (us := [vint r]) Try.func9 rfl rfl rfl rfl fun X hN => ?_⟩
 unfold m_gateref2_InstancesFault at H
 refine awp_seq ?_
 refine awp_plain hN rfl ?_
 refine qe rfl ?_
 refine awp_seq ?_
 refine awp_seq ?_
 refine awp_plain hN rfl ?_
 refine qd rfl ?_
 refine seq_run0 (t_len tyU26 rfl) ?_
 refine seq_run0 (stp_gtr rfl rfl) ?_
 refine awp_cond _ rfl (fun h2 => ?_) (fun h2 => ?_)
 ·replace H := ift h2 H
  refine awp_seq ?_
  refine awp_plain hN rfl ?_
  refine qe rfl ?_
  refine awp_ret ?_
  cases H
  exact ⟨trivial, .inl rfl, trivial⟩
 ·replace H := iff_ h2 H
  refine awp_skip ?_
  refine awp_seq ?_
  refine awp_plain hN rfl ?_
  refine qe rfl ?_
  refine awp_seq ?_
  refine awp_seq ?_
  refine awp_plain hN rfl ?_
  refine qd rfl ?_
  refine seq_run0 (t_len tyU26 rfl) ?_
  refine qd rfl ?_
  refine awp_block ?_
  obtain ⟨h6, H⟩ := gif H
  refine awp_forL (fun (k4 : Nat) (s : Bs) => [(3, .dat (vstr s)), (9, .dat (vlst (List.map C_api_Instance l1))), (10, .dat (vint (l1.length : Int))), (11, .dat (vint (k4 : Int)))]) (fun (k4 : Nat) (s : Bs) => []) [] H ⟨rfl, rfl, rfl, rfl, trivial⟩ trivial (fun _ _ => rfl) ?_ ?_
  ·rintro last3 H
   replace H : gateref2_InstancesFault_E1 last3 = some r := H
   unfold gateref2_InstancesFault_E1 at H
   refine awp_seq ?_
   refine awp_plain hN rfl ?_
   refine seq_run0 (stp_lss rfl rfl) ?_
   refine awp_seq ?_
   refine awp_cond _ rfl (fun h => (lt_t h).elim) (fun h => ?_)
   refine awp_exit ?_
   refine awp_seq ?_
   refine awp_plain hN rfl ?_
   refine qe rfl ?_
   refine awp_ret ?_
   cases H
   exact ⟨trivial, .inl rfl, trivial⟩
  ·rintro k4 x7 last3 q5 h8 h9 H hq5
   replace H : gateref2_InstancesFault_L1 k4 x7 last3 = some q5 := H
   unfold gateref2_InstancesFault_L1 at H
   refine awp_seq ?_
   refine awp_plain hN rfl ?_
   refine seq_run0 (stp_lss rfl rfl) ?_
   refine awp_seq ?_
   refine awp_cond _ rfl (fun h => ?_) (fun h => (lt_f h8 h).elim)
   refine awp_skip ?_
   refine awp_seq ?_
   refine awp_block ?_
   refine awp_seq ?_
   refine awp_plain hN rfl ?_
   refine seq_run0 (t_idx tyE26 (fun _ => rfl) rfl rfl h9) ?_
   refine seq_run0 (stp_loadEA tyS50 rfl (map_at h9) rfl) ?_
   refine seq_run2 (stp_alloc 1 tyZ50 rfl) rfl ?_
   refine seq_run2 (stp_storeW tyS50 rfl rfl rfl rfl) rfl ?_
   refine awp_seq ?_
   refine awp_block ?_
   refine awp_seq ?_
   refine awp_plain hN rfl ?_
   refine seq_run0 (stp_fldP tyF50_0 rfl) ?_
   refine seq_run1 (stp_load1 tyS9 rfl rfl) rfl ?_
   obtain ⟨r10, h11, H⟩ := bnd H
   refine seq_run0 (stp_call (k_gateref2_Key x7.Key r10 h11) ⟨.inl rfl, trivial⟩) ?_
   refine seq_run0 (stp_not rfl) ?_
   refine qe rfl ?_
   refine awp_cond _ rfl (fun h12 => ?_) (fun h12 => ?_)
   ·replace H := ift h12 H
    refine awp_seq ?_
    refine awp_plain hN rfl ?_
    refine qe rfl ?_
    refine awp_ret ?_
    replace H := retl H hq5
    cases H
    exact ⟨trivial, .inl rfl, trivial⟩
   ·replace H := iff_ h12 H
    refine awp_seq ?_
    refine awp_plain hN rfl ?_
    refine seq_run0 (stp_fldP tyF50_0 rfl) ?_
    refine seq_run1 (stp_load1 tyS9 rfl rfl) rfl ?_
    refine qd rfl ?_
    refine seq_run0 (stp_sleq rfl rfl) ?_
    refine qe rfl ?_
    refine awp_cond _ rfl (fun h13 => ?_) (fun h13 => ?_)
    ·replace H := ift h13 H
     refine awp_seq ?_
     refine awp_plain hN rfl ?_
     refine qe rfl ?_
     refine awp_ret ?_
     replace H := retl H hq5
     cases H
     exact ⟨trivial, .inl rfl, trivial⟩
    ·replace H := iff_ h13 H
     refine awp_seq ?_
     refine awp_plain hN rfl ?_
     refine seq_run0 (stp_fldP tyF50_1 rfl) ?_
     refine seq_run1 (stp_load1 tyS3 rfl rfl) rfl ?_
     obtain ⟨r14, h15, H⟩ := bnd H
     refine seq_run0 (stp_call (k_gateref2_in x7.Weight 1 100 r14 h15) ⟨.inl rfl, .inl rfl, .inl rfl, trivial⟩) ?_
     refine seq_run0 (stp_not rfl) ?_
     refine qe rfl ?_
     refine awp_cond _ rfl (fun h16 => ?_) (fun h16 => ?_)
     ·replace H := ift h16 H
      refine awp_seq ?_
      refine awp_plain hN rfl ?_
      refine qe rfl ?_
      refine awp_ret ?_
      replace H := retl H hq5
      cases H
      exact ⟨trivial, .inl rfl, trivial⟩
     ·replace H := iff_ h16 H
      refine awp_skip ?_
      refine awp_plain hN rfl ?_
      refine seq_run0 (stp_fldP tyF50_0 rfl) ?_
      refine seq_run1 (stp_load1 tyS9 rfl rfl) rfl ?_
      refine qe rfl ?_
      refine awp_plain hN rfl ?_
      refine seq_run0 (stp_add rfl rfl (by omega)) ?_
      refine qd rfl ?_
      exact ⟨_, backl H, ⟨rfl, rfl, rfl, rfl, trivial⟩, trivial⟩
theorem k_gateref2_Moment (v1 : Int) (r : (Bool)) (H : m_gateref2_Moment v1 = some r) : Fn Try.prog 35 [vint v1] (resOf [vbool r]) := by
 refine ⟨by kernel_rfl, pure_of (us := [vbool r]) Try.func35 rfl rfl rfl rfl fun X hN => ?_⟩
 unfold m_gateref2_Moment at H
 refine awp_seq ?_
 refine awp_plain hN rfl ?_
 refine qe rfl ?_
 refine awp_seq ?_
 refine awp_plain hN rfl ?_
 refine qd rfl ?_
 obtain ⟨r2, h3, H⟩ := bnd H
 refine seq_run0 (stp_call (k_gateref2_in v1 0 345686399999 r2 h3) ⟨.inl rfl, .inl rfl, .inl rfl, trivial⟩) ?_
 refine qe rfl ?_
 refine awp_ret ?_
 cases H
 exact ⟨trivial, .inl rfl, trivial⟩
theorem k_slices_IndexFunc_L_api_Instance_api_Instance_ (s1 : (List S_api_Instance)) (p1 : S_api_Instance → Option (Bool)) (fv1 : Nat) (us1 : List V) (hp1 : ∀ a0 r, p1 a0 = some r → Fn Try.prog fv1 ([vagg (C_api_Instance a0)] ++ us1) (resOf [vbool r])) (r : (Int)) (H : m_slices_IndexFunc_L_api_Instance_api_Instance_ s1 p1 = some r) : Fn Try.prog 50 [vlst (List.map C_api_Instance s1), vfn fv1 us1] (resOf [vint r]) := by
 refine ⟨by kernel_rfl, pure_of (us := [vint r]) Try.func50 rfl rfl rfl rfl fun X hN => ?_⟩
 unfold m_slices_IndexFunc_L_api_Instance_api_Instance_ at H
 refine awp_seq ?_
 refine awp_plain hN rfl ?_
 refine qe rfl ?_
 refine awp_seq ?_
 refine awp_seq ?_
 refine awp_plain hN rfl ?_
 refine qd rfl ?_
 refine seq_run0 (t_len tyU26 rfl) ?_
 refine qd rfl ?_
 refine awp_block ?_
 obtain ⟨h4, H⟩ := gif H
 refine awp_forL (fun (k2 : Nat) (s : Unit) => [(0, .dat (vlst (List.map C_api_Instance s1))), (1, .dat (vfn fv1 us1)), (7, .dat (vint (s1.length : Int))), (8, .dat (vint (k2 : Int)))]) (fun (k2 : Nat) (s : Unit) => []) () H ⟨rfl, rfl, rfl, rfl, trivial⟩ trivial (fun _ _ => rfl) ?_ ?_
 ·rintro ⟨⟩ H
  replace H : slices_IndexFunc_L_api_Instance_api_Instance__E1 = some r := H
  unfold slices_IndexFunc_L_api_Instance_api_Instance__E1 at H
  refine awp_seq ?_
  refine awp_plain hN rfl ?_
  refine seq_run0 (stp_lss rfl rfl) ?_
  refine awp_seq ?_
  refine awp_cond _ rfl (fun h => (lt_t h).elim) (fun h => ?_)
  refine awp_exit ?_
  refine awp_seq ?_
  refine awp_plain hN rfl ?_
  refine qe rfl ?_
  refine awp_ret ?_
  cases H
  exact ⟨trivial, .inl rfl, trivial⟩
 ·rintro k2 x5 ⟨⟩ q3 h6 h7 H hq3
  replace H : slices_IndexFunc_L_api_Instance_api_Instance__L1 p1 k2 x5 = some q3 := H
  unfold slices_IndexFunc_L_api_Instance_api_Instance__L1 at H
  refine awp_seq ?_
  refine awp_plain hN rfl ?_
  refine seq_run0 (stp_lss rfl rfl) ?_
  refine awp_seq ?_
  refine awp_cond _ rfl (fun h => ?_) (fun h => (lt_f h6 h).elim)
  refine awp_skip ?_
  refine awp_seq ?_
  refine awp_block ?_
  refine awp_seq ?_
  refine awp_plain hN rfl ?_
  refine qd rfl ?_
  refine qe rfl ?_
  refine awp_seq ?_
  refine awp_plain hN rfl ?_
  refine qd rfl ?_
  refine qd rfl ?_
  refine qd rfl ?_
  refine seq_run0 (t_idx tyE26 (fun _ => rfl) rfl rfl h7) ?_
  refine seq_run0 (stp_loadEA tyS50 rfl (map_at h7) rfl) ?_
  obtain ⟨r8, h9, H⟩ := bnd H
  refine seq_run0 (stp_callv (hp1 x5 r8 h9) rfl ⟨.inl rfl, trivial⟩) ?_
  refine awp_cond _ rfl (fun h10 => ?_) (fun h10 => ?_)
  ·replace H := ift h10 H
   refine awp_seq ?_
   refine awp_plain hN rfl ?_
   refine qd rfl ?_
   refine qe rfl ?_
   refine awp_ret ?_
   replace H := retl H hq3
   cases H
   exact ⟨trivial, .inl rfl, trivial⟩
  ·replace H := iff_ h10 H
   refine awp_skip ?_
   refine awp_plain hN rfl ?_
   refine seq_run0 (stp_add rfl rfl (by omega)) ?_
   refine qd rfl ?_
   exact ⟨_, backl H, ⟨rfl, rfl, rfl, rfl, trivial⟩, trivial⟩
theorem k_gateref2_InstanceAt_1 (x1 : S_api_Instance) (c2 : Bs) (r : (Bool)) (H : m_gateref2_InstanceAt_1 x1 c2 = some r) : Fn Try.prog 51 [vagg (C_api_Instance x1), vcell [[vstr c2]] 0 0] (resOf [vbool r]) := by
 refine ⟨by kernel_rfl, pure_of (us := [vbool r]) Try.func51 rfl rfl rfl rfl fun X hN => ?_⟩
 unfold m_gateref2_InstanceAt_1 at H
 refine awp_seq ?_
 refine awp_plain hN rfl ?_
 refine seq_run2 (stp_boxA 1 rfl) rfl ?_
 refine qe rfl ?_
 refine awp_seq ?_
 refine awp_plain hN rfl ?_
 refine seq_run0 (stp_fldP tyF50_0 rfl) ?_
 refine seq_run1 (stp_load1 tyS9 rfl rfl) rfl ?_
 refine seq_run0 (stp_loadE1 tyS9 rfl rfl rfl) ?_
 refine seq_run0 (stp_seql rfl rfl) ?_
 refine qe rfl ?_
 refine awp_ret ?_
 cases H
 exact ⟨trivial, .inl rfl, trivial⟩
theorem k_gateref2_InstanceAt (l1 : (List S_api_Instance)) (key2 : Bs) (r : (Int)) (H : m_gateref2_InstanceAt l1 key2 = some r) : Fn Try.prog 36 [vlst (List.map C_api_Instance l1), vstr key2] (resOf [vint r]) := by
 refine ⟨by kernel_rfl, pure_of (us := [vint r]) Try.func36 rfl rfl rfl rfl fun X hN => ?_⟩
 unfold m_gateref2_InstanceAt at H
 refine awp_seq ?_
 refine awp_plain hN rfl ?_
 refine seq_run2 (stp_box1 1 rfl rfl) rfl ?_
 refine qe rfl ?_
 refine awp_seq ?_
 refine awp_frzB 1 [vstr key2] rfl rfl ?_
 refine awp_plain hN rfl ?_
 refine qd rfl ?_
 refine seq_run0 (stp_mkfn (us := [_]) ⟨rfl, trivial⟩) ?_
 obtain ⟨r3, h4, H⟩ := bnd H
 refine seq_run0 (stp_call (k_slices_IndexFunc_L_api_Instance_api_Instance_ l1 (fun (a0 : S_api_Instance) => m_gateref2_InstanceAt_1 a0 key2) 51 [vcell [[vstr key2]] 0 0] (fun a0 r h => k_gateref2_InstanceAt_1 a0 key2 r h) r3 h4) ⟨.inl rfl, .inl rfl, trivial⟩) ?_
 refine qe rfl ?_
 refine awp_ret ?_
 cases H
 exact ⟨trivial, .inl rfl, trivial⟩
theorem k_gateref2_ResultsFault (l1 : (List S_api_Instance)) (r2 : (List S_api_Result)) (r : (Int)) (H : m_gateref2_ResultsFault l1 r2 = some r) : Fn Try.prog 12 [vlst (List.map C_api_Instance l1), vlst (List.map C_api_Result r2)] (resOf [vint r]) := by
 refine ⟨by kernel_rfl, pure_of (us := [vint r]) Try.func12 rfl rfl rfl rfl fun X hN => ?_⟩
 unfold m_gateref2_ResultsFault at H
 refine awp_seq ?_
 refine awp_plain hN rfl ?_
 refine qe rfl ?_
 refine awp_seq ?_
 refine awp_seq ?_
 refine awp_plain hN rfl ?_
 refine qd rfl ?_
 refine seq_run0 (t_len tyU32 rfl) ?_
 refine seq_run0 (stp_gtr rfl rfl) ?_
 refine awp_cond _ rfl (fun h3 => ?_) (fun h3 => ?_)
 ·replace H := ift h3 H
  refine awp_seq ?_
  refine awp_plain hN rfl ?_
  refine qe rfl ?_
  refine awp_ret ?_
  cases H
  exact ⟨trivial, .inl rfl, trivial⟩
 ·replace H := iff_ h3 H
  refine awp_skip ?_
  refine awp_seq ?_
  refine awp_seq ?_
  refine awp_plain hN rfl ?_
  refine qd rfl ?_
  refine seq_run0 (t_len tyU32 rfl) ?_
  refine qd rfl ?_
  refine awp_block ?_
  obtain ⟨h6, H⟩ := gif H
  refine awp_forL (fun (k4 : Nat) (s : Unit) => [(0, .dat (vlst (List.map C_api_Instance l1))), (1, .dat (vlst (List.map C_api_Result r2))), (10, .dat (vlst (List.map C_api_Result r2))), (11, .dat (vint (r2.length : Int))), (12, .dat (vint (k4 : Int)))]) (fun (k4 : Nat) (s : Unit) => []) () H ⟨rfl, rfl, rfl, rfl, rfl, trivial⟩ trivial (fun _ _ => rfl) ?_ ?_
  ·rintro ⟨⟩ H
   replace H : gateref2_ResultsFault_E1 = some r := H
   unfold gateref2_ResultsFault_E1 at H
   refine awp_seq ?_
   refine awp_plain hN rfl ?_
   refine seq_run0 (stp_lss rfl rfl) ?_
   refine awp_seq ?_
   refine awp_cond _ rfl (fun h => (lt_t h).elim) (fun h => ?_)
   refine awp_exit ?_
   refine awp_seq ?_
   refine awp_plain hN rfl ?_
   refine qe rfl ?_
   refine awp_ret ?_
   cases H
   exact ⟨trivial, .inl rfl, trivial⟩
  ·rintro k4 x7 ⟨⟩ q5 h8 h9 H hq5
   replace H : gateref2_ResultsFault_L1 l1 r2 k4 x7 = some q5 := H
   unfold gateref2_ResultsFault_L1 at H
   refine awp_seq ?_
   refine awp_plain hN rfl ?_
   refine seq_run0 (stp_lss rfl rfl) ?_
   refine awp_seq ?_
   refine awp_cond _ rfl (fun h => ?_) (fun h => (lt_f h8 h).elim)
   refine awp_skip ?_
   refine awp_seq ?_
   refine awp_block ?_
   refine awp_seq ?_
   refine awp_plain hN rfl ?_
   refine qd rfl ?_
   refine seq_run0 (t_idx tyE32 (fun _ => rfl) rfl rfl h9) ?_
   refine seq_run0 (stp_loadEA tyS56 rfl (map_at h9) rfl) ?_
   refine seq_run2 (stp_alloc 1 tyZ56 rfl) rfl ?_
   refine qe rfl ?_
   refine seq_run2 (stp_storeW tyS56 rfl rfl rfl rfl) rfl ?_
   refine awp_block ?_
   refine awp_seq ?_
   refine awp_plain hN rfl ?_
   refine seq_run0 (stp_fldP tyF56_0 rfl) ?_
   refine seq_run1 (stp_load1 tyS3 rfl rfl) rfl ?_
   obtain ⟨r10, h11, H⟩ := bnd H
   refine seq_run0 (stp_call (k_gateref2_Moment x7.At r10 h11) ⟨.inl rfl, trivial⟩) ?_
   refine seq_run0 (stp_not rfl) ?_
   refine qe rfl ?_
   refine awp_cond _ rfl (fun h12 => ?_) (fun h12 => ?_)
   ·replace H := ift h12 H
    refine awp_seq ?_
    refine awp_plain hN rfl ?_
    refine qe rfl ?_
    refine awp_ret ?_
    replace H := retl H hq5
    cases H
    exact ⟨trivial, .inl rfl, trivial⟩
   ·replace H := iff_ h12 H
    refine awp_seq ?_
    refine awp_plain hN rfl ?_
    refine qd rfl ?_
    refine seq_run0 (stp_fldP tyF56_1 rfl) ?_
    refine seq_run1 (stp_load1 tyS9 rfl rfl) rfl ?_
    obtain ⟨r13, h14, H⟩ := bnd H
    refine seq_run0 (stp_call (k_gateref2_InstanceAt l1 x7.Instance r13 h14) ⟨.inl rfl, .inl rfl, trivial⟩) ?_
    refine seq_run0 (stp_lss rfl rfl) ?_
    refine qe rfl ?_
    refine awp_cond _ rfl (fun h15 => ?_) (fun h15 => ?_)
    ·replace H := ift h15 H
     refine awp_seq ?_
     refine awp_plain hN rfl ?_
     refine qe rfl ?_
     refine awp_ret ?_
     replace H := retl H hq5
     cases H
     exact ⟨trivial, .inl rfl, trivial⟩
    ·replace H := iff_ h15 H
     refine awp_joinE (ι := Bool) (fun i => [(0, .dat (vlst (List.map C_api_Instance l1))), (1, .dat (vlst (List.map C_api_Result r2))), (5, .dat (vint (k4 : Int))), (6, .ptr 1 0), (10, .dat (vlst (List.map C_api_Result r2))), (11, .dat (vint (r2.length : Int))), (12, .dat (vint (k4 : Int))), (28, .dat (vbool i))]) (fun i => [(1, .box none 56 [.dat (vint x7.At), .dat (vstr x7.Instance), .dat (vint x7.Status)])]) (fun i => gateref2_ResultsFault_J2 r2 k4 x7 i = some q5) (fun i => rfl) ?_ ?_
     ·skip
      refine awp_plain hN rfl ?_
      refine seq_run0 (stp_fldP tyF56_2 rfl) ?_
      refine seq_run1 (stp_load1 tyS3 rfl rfl) rfl ?_
      refine seq_run0 (stp_neq rfl rfl) ?_
      refine qd rfl ?_
      refine seq_split (j := 3) rfl rfl (fun h16 => ?_) (fun h16 => ?_) rfl
      ·have h17 := un1 h16
       replace H := ift h17 H
       refine seq_g0 rfl rfl h16 (stp_fldP tyF56_2 rfl) ?_
       refine seq_g1 rfl rfl h16 (stp_load1 tyS3 rfl rfl) rfl ?_
       obtain ⟨r18, h19, H⟩ := bnd H
       refine seq_g0 rfl rfl h16 (stp_call (k_gateref2_in x7.Status 100 599 r18 h19) ⟨.inl rfl, .inl rfl, .inl rfl, trivial⟩) ?_
       refine seq_g0 rfl rfl h16 (stp_not rfl) ?_
       refine seq_run0 (stp_pick_t rfl (bTT h17) rfl) ?_
       refine qe rfl ?_
       exact ⟨!r18, H, ⟨rfl, rfl, rfl, rfl, rfl, rfl, rfl, rfl, trivial⟩, ⟨rfl, trivial⟩⟩
      ·have h20 := un2 h16
       replace H := iff_ h20 H
       refine seq_skip rfl rfl h16 ?_
       refine seq_skip rfl rfl h16 ?_
       refine seq_skip rfl rfl h16 ?_
       refine seq_skip rfl rfl h16 ?_
       refine seq_run0 (stp_pick_f rfl (bFF h20) rfl) ?_
       refine qe rfl ?_
       exact ⟨false, H, ⟨rfl, rfl, rfl, rfl, rfl, rfl, rfl, rfl, trivial⟩, ⟨rfl, trivial⟩⟩
     ·rintro v21 H
      replace H : gateref2_ResultsFault_J2 r2 k4 x7 v21 = some q5 := H
      unfold gateref2_ResultsFault_J2 at H
      refine awp_cond _ rfl (fun h22 => ?_) (fun h22 => ?_)
      ·replace H := ift h22 H
       refine awp_seq ?_
       refine awp_plain hN rfl ?_
       refine qe rfl ?_
       refine awp_ret ?_
       replace H := retl H hq5
       cases H
       exact ⟨trivial, .inl rfl, trivial⟩
      ·replace H := iff_ h22 H
       refine awp_joinE (ι := Bool) (fun i => [(0, .dat (vlst (List.map C_api_Instance l1))), (1, .dat (vlst (List.map C_api_Result r2))), (10, .dat (vlst (List.map C_api_Result r2))), (11, .dat (vint (r2.length : Int))), (12, .dat (vint (k4 : Int))), (38, .dat (vbool i))]) (fun i => []) (fun i => gateref2_ResultsFault_J3 i = some q5) (fun i => rfl) ?_ ?_
       ·skip
        refine awp_draw mixed hN rfl rfl ?_
        refine qd rfl ?_
        refine seq_run0 (stp_gtr rfl rfl) ?_
        refine qd rfl ?_
        refine seq_split (j := 2) rfl rfl (fun h23 => ?_) (fun h23 => ?_) rfl
        ·have h24 := un1 h23
         replace H := ift h24 H
         refine seq_g0 rfl rfl h23 (stp_fldP tyF56_0 rfl) ?_
         refine seq_g1 rfl rfl h23 (stp_load1 tyS3 rfl rfl) rfl ?_
         refine seq_g0 rfl rfl h23 (stp_move (.dat _) rfl) ?_
         refine seq_g0 rfl rfl h23 (stp_move (.dat _) rfl) ?_
         refine seq_g0 rfl rfl h23 (stp_sub rfl rfl (by omega)) ?_
         obtain ⟨x25, h26, H⟩ := bnd H
         refine seq_g0 rfl rfl h23 (t_idxI tyE32 (fun _ => rfl) rfl rfl h26) ?_
         refine seq_g0 rfl rfl h23 (stp_fldE tyF56_0 rfl) ?_
         refine seq_g0 rfl rfl h23 (stp_loadE1 tyS3 rfl (map_at (at_some h26).2) rfl) ?_
         refine seq_g0 rfl rfl h23 (stp_lss rfl rfl) ?_
         refine seq_run0 (stp_pick_t rfl (bTT h24) rfl) ?_
         refine qe rfl ?_
         refine ⟨rfl, ?_⟩
         exact ⟨decide (x7.At < x25.At), H, ⟨rfl, rfl, rfl, rfl, rfl, rfl, trivial⟩, trivial⟩
        ·have h27 := un2 h23
         replace H := iff_ h27 H
         refine seq_skip rfl rfl h23 ?_
         refine seq_skip rfl rfl h23 ?_
         refine seq_skip rfl rfl h23 ?_
         refine seq_skip rfl rfl h23 ?_
         refine seq_skip rfl rfl h23 ?_
         refine seq_skip rfl rfl h23 ?_
         refine seq_skip rfl rfl h23 ?_
         refine seq_skip rfl rfl h23 ?_
         refine seq_skip rfl rfl h23 ?_
         refine seq_run0 (stp_pick_f rfl (bFF h27) rfl) ?_
         refine qe rfl ?_
         refine ⟨rfl, ?_⟩
         exact ⟨false, H, ⟨rfl, rfl, rfl, rfl, rfl, rfl, trivial⟩, trivial⟩
       ·rintro v28 H
        replace H : gateref2_ResultsFault_J3 v28 = some q5 := H
        unfold gateref2_ResultsFault_J3 at H
        refine awp_cond _ rfl (fun h29 => ?_) (fun h29 => ?_)
        ·replace H := ift h29 H
         refine awp_seq ?_
         refine awp_plain hN rfl ?_
         refine qe rfl ?_
         refine awp_ret ?_
         replace H := retl H hq5
         cases H
         exact ⟨trivial, .inl rfl, trivial⟩
        ·replace H := iff_ h29 H
         refine awp_skip ?_
         refine awp_plain hN rfl ?_
         refine seq_run0 (stp_add rfl rfl (by omega)) ?_
         refine qd rfl ?_
         exact ⟨_, backl H, ⟨rfl, rfl, rfl, rfl, rfl, trivial⟩, trivial⟩
theorem k_gatelaw2_errs (l1 : (List Int)) (r : (Int)) (H : m_gatelaw2_errs l1 = some r) : Fn Try.prog 11 [vlst (List.map C_api_Errno l1)] (resOf [vint r]) := by
 refine ⟨by kernel_rfl, pure_of (us := [vint r]) Try.func11 rfl rfl rfl rfl fun X hN => ?_⟩
 unfold m_gatelaw2_errs at H
 refine awp_seq ?_
 refine awp_plain hN rfl ?_
 refine qe rfl ?_
 refine awp_seq ?_
 refine awp_seq ?_
 refine awp_plain hN rfl ?_
 refine qd rfl ?_
 refine seq_run0 (t_len tyU67 rfl) ?_
 refine qd rfl ?_
 refine awp_block ?_
 obtain ⟨h4, H⟩ := gif H
 refine awp_forL (fun (k2 : Nat) (s : Unit) => [(5, .dat (vlst (List.map C_api_Errno l1))), (6, .dat (vint (l1.length : Int))), (7, .dat (vint (k2 : Int)))]) (fun (k2 : Nat) (s : Unit) => []) () H ⟨rfl, rfl, rfl, trivial⟩ trivial (fun _ _ => rfl) ?_ ?_
 ·rintro ⟨⟩ H
  replace H : gatelaw2_errs_E1 = some r := H
  unfold gatelaw2_errs_E1 at H
  refine awp_seq ?_
  refine awp_plain hN rfl ?_
  refine seq_run0 (stp_lss rfl rfl) ?_
  refine awp_seq ?_
  refine awp_cond _ rfl (fun h => (lt_t h).elim) (fun h => ?_)
  refine awp_exit ?_
  refine awp_seq ?_
  refine awp_plain hN rfl ?_
  refine qe rfl ?_
  refine awp_ret ?_
  cases H
  exact ⟨trivial, .inl rfl, trivial⟩
 ·rintro k2 x5 ⟨⟩ q3 h6 h7 H hq3
  replace H : gatelaw2_errs_L1 k2 x5 = some q3 := H
  unfold gatelaw2_errs_L1 at H
  refine awp_seq ?_
  refine awp_plain hN rfl ?_
  refine seq_run0 (stp_lss rfl rfl) ?_
  refine awp_seq ?_
  refine awp_cond _ rfl (fun h => ?_) (fun h => (lt_f h6 h).elim)
  refine awp_skip ?_
  refine awp_seq ?_
  refine awp_block ?_
  refine awp_seq ?_
  refine awp_plain hN rfl ?_
  refine seq_run0 (t_idx tyE67 (fun _ => rfl) rfl rfl h7) ?_
  refine seq_run0 (stp_loadE1 tyS35 rfl (map_at h7) rfl) ?_
  refine qe rfl ?_
  refine awp_seq ?_
  refine awp_plain hN rfl ?_
  refine qd rfl ?_
  refine seq_run0 (stp_neq rfl rfl) ?_
  refine awp_cond _ rfl (fun h8 => ?_) (fun h8 => ?_)
  ·replace H := ift h8 H
   refine awp_seq ?_
   refine awp_plain hN rfl ?_
   refine qd rfl ?_
   refine qe rfl ?_
   refine awp_ret ?_
   replace H := retl H hq3
   cases H
   exact ⟨trivial, .inl rfl, trivial⟩
  ·replace H := iff_ h8 H
   refine awp_skip ?_
   refine awp_plain hN rfl ?_
   refine seq_run0 (stp_add rfl rfl (by omega)) ?_
   refine qd rfl ?_
   exact ⟨_, backl H, ⟨rfl, rfl, rfl, trivial⟩, trivial⟩
theorem k_gateref2_OutliersFault (o1 : S_api_Outliers) (r : (Int)) (H : m_gateref2_OutliersFault o1 = some r) : Fn Try.prog 13 [vagg (C_api_Outliers o1)] (resOf [vint r]) := by
 refine ⟨by kernel_rfl, pure_of (us := [vint r]) Try.func13 rfl rfl rfl rfl fun X hN => ?_⟩
 unfold m_gateref2_OutliersFault at H
 refine awp_seq ?_
 refine awp_plain hN rfl ?_
 refine seq_run2 (stp_boxA 1 rfl) rfl ?_
 refine qe rfl ?_
 refine awp_seq ?_
 refine awp_joinE (ι := Bool) (fun i => [(25, .dat (vbool i))]) (fun i => []) (fun i => gateref2_OutliersFault_J1 i = some r) (fun i => rfl) ?_ ?_
 ·skip
  refine awp_plain hN rfl ?_
  refine seq_run0 (stp_fldP tyF29_0 rfl) ?_
  refine seq_run1 (stp_load1 tyS3 rfl rfl) rfl ?_
  obtain ⟨r2, h3, H⟩ := bnd H
  refine seq_run0 (stp_call (k_gateref2_in o1.Fails 1 100 r2 h3) ⟨.inl rfl, .inl rfl, .inl rfl, trivial⟩) ?_
  refine seq_run0 (stp_not rfl) ?_
  refine qd rfl ?_
  refine seq_split (j := 4) rfl rfl (fun h4 => ?_) (fun h4 => ?_) rfl
  ·have h5 := un3 h4
   replace H := iff_ h5 H
   refine seq_g0 rfl rfl h4 (stp_fldP tyF29_1 rfl) ?_
   refine seq_g1 rfl rfl h4 (stp_load1 tyS3 rfl rfl) rfl ?_
   refine seq_g0 rfl rfl h4 (stp_fldP tyF29_2 rfl) ?_
   refine seq_g1 rfl rfl h4 (stp_load1 tyS3 rfl rfl) rfl ?_
   obtain ⟨r6, h7, H⟩ := bnd H
   refine seq_g0 rfl rfl h4 (stp_call (k_gateref2_in o1.Base 1 o1.Most r6 h7) ⟨.inl rfl, .inl rfl, .inl rfl, trivial⟩) ?_
   refine seq_g0 rfl rfl h4 (stp_not rfl) ?_
   refine seq_run0 (stp_pick_f rfl (bFF h5) rfl) ?_
   refine qd rfl ?_
   refine seq_split (j := 12) rfl rfl (fun h8 => ?_) (fun h8 => ?_) rfl
   ·have h9 := un3 h8
    replace H := iff_ h9 H
    refine seq_g0 rfl rfl h8 (stp_fldP tyF29_2 rfl) ?_
    refine seq_g1 rfl rfl h8 (stp_load1 tyS3 rfl rfl) rfl ?_
    refine seq_g0 rfl rfl h8 (stp_gtr rfl rfl) ?_
    refine seq_run0 (stp_pick_f rfl (bFF h9) rfl) ?_
    refine qd rfl ?_
    refine seq_split (j := 17) rfl rfl (fun h10 => ?_) (fun h10 => ?_) rfl
    ·have h11 := un3 h10
     replace H := iff_ h11 H
     refine seq_g0 rfl rfl h10 (stp_fldP tyF29_3 rfl) ?_
     refine seq_g1 rfl rfl h10 (stp_load1 tyS3 rfl rfl) rfl ?_
     obtain ⟨r12, h13, H⟩ := bnd H
     refine seq_g0 rfl rfl h10 (stp_call (k_gateref2_in o1.Share 0 1000 r12 h13) ⟨.inl rfl, .inl rfl, .inl rfl, trivial⟩) ?_
     refine seq_g0 rfl rfl h10 (stp_not rfl) ?_
     refine seq_run0 (stp_pick_f rfl (bFF h11) rfl) ?_
     exact ⟨!r12, H, ⟨rfl, trivial⟩, trivial⟩
    ·have h14 := un4 h10
     replace H := ift h14 H
     refine seq_skip rfl rfl h10 ?_
     refine seq_skip rfl rfl h10 ?_
     refine seq_skip rfl rfl h10 ?_
     refine seq_skip rfl rfl h10 ?_
     refine seq_run0 (stp_pick_t rfl (bTT h14) rfl) ?_
     exact ⟨true, H, ⟨rfl, trivial⟩, trivial⟩
   ·have h15 := un4 h8
    replace H := ift h15 H
    refine seq_skip rfl rfl h8 ?_
    refine seq_skip rfl rfl h8 ?_
    refine seq_skip rfl rfl h8 ?_
    refine seq_run0 (stp_pick_t rfl (bTT h15) rfl) ?_
    refine qd rfl ?_
    refine seq_skip rfl rfl rfl ?_
    refine seq_skip rfl rfl rfl ?_
    refine seq_skip rfl rfl rfl ?_
    refine seq_skip rfl rfl rfl ?_
    refine seq_run0 (stp_pick_t rfl rfl rfl) ?_
    exact ⟨true, H, ⟨rfl, trivial⟩, trivial⟩
  ·have h16 := un4 h4
   replace H := ift h16 H
   refine seq_skip rfl rfl h4 ?_
   refine seq_skip rfl rfl h4 ?_
   refine seq_skip rfl rfl h4 ?_
   refine seq_skip rfl rfl h4 ?_
   refine seq_skip rfl rfl h4 ?_
   refine seq_skip rfl rfl h4 ?_
   refine seq_run0 (stp_pick_t rfl (bTT h16) rfl) ?_
   refine qd rfl ?_
   refine seq_skip rfl rfl rfl ?_
   refine seq_skip rfl rfl rfl ?_
   refine seq_skip rfl rfl rfl ?_
   refine seq_run0 (stp_pick_t rfl rfl rfl) ?_
   refine qd rfl ?_
   refine seq_skip rfl rfl rfl ?_
   refine seq_skip rfl rfl rfl ?_
   refine seq_skip rfl rfl rfl ?_
   refine seq_skip rfl rfl rfl ?_
   refine seq_run0 (stp_pick_t rfl rfl rfl) ?_
   exact ⟨true, H, ⟨rfl, trivial⟩, trivial⟩
 ·rintro v17 H
  replace H : gateref2_OutliersFault_J1 v17 = some r := H
  unfold gateref2_OutliersFault_J1 at H
  refine awp_cond _ rfl (fun h18 => ?_) (fun h18 => ?_)
  ·replace H := ift h18 H
   refine awp_seq ?_
   refine awp_plain hN rfl ?_
   refine qe rfl ?_
   refine awp_ret ?_
   cases H
   exact ⟨trivial, .inl rfl, trivial⟩
  ·replace H := iff_ h18 H
   refine awp_skip ?_
   refine awp_seq ?_
   refine awp_plain hN rfl ?_
   refine qe rfl ?_
   refine awp_ret ?_
   cases H
   exact ⟨trivial, .inl rfl, trivial⟩
theorem k_gatelaw2_when (is1 : Bool) (e2 : Int) (r : (Int)) (H : m_gatelaw2_when is1 e2 = some r) : Fn Try.prog 37 [vbool is1, vint e2] (resOf [vint r]) := by
 refine ⟨by kernel_rfl, pure_of (us := [vint r]) Try.func37 rfl rfl rfl rfl fun X hN => ?_⟩
 unfold m_gatelaw2_when at H
 refine awp_seq ?_
 refine awp_plain hN rfl ?_
 refine qe rfl ?_
 refine awp_seq ?_
 refine awp_seq ?_
 refine awp_plain hN rfl ?_
 refine qd rfl ?_
 refine awp_cond _ rfl (fun h3 => ?_) (fun h3 => ?_)
 ·replace H := ift h3 H
  refine awp_seq ?_
  refine awp_plain hN rfl ?_
  refine qd rfl ?_
  refine qe rfl ?_
  refine awp_ret ?_
  cases H
  exact ⟨trivial, .inl rfl, trivial⟩
 ·replace H := iff_ h3 H
  refine awp_skip ?_
  refine awp_seq ?_
  refine awp_plain hN rfl ?_
  refine qe rfl ?_
  refine awp_ret ?_
  cases H
  exact ⟨trivial, .inl rfl, trivial⟩
theorem k_gatelaw2_momentFault (v1 : Int) (r : (Int)) (H : m_gatelaw2_momentFault v1 = some r) : Fn Try.prog 14 [vint v1] (resOf [vint r]) := by
 refine ⟨by kernel_rfl, pure_of (us := [vint r]) Try.func14 rfl rfl rfl rfl fun X hN => ?_⟩
 unfold m_gatelaw2_momentFault at H
 refine awp_seq ?_
 refine awp_plain hN rfl ?_
 refine qe rfl ?_
 refine awp_seq ?_
 refine awp_plain hN rfl ?_
 refine qd rfl ?_
 obtain ⟨r2, h3, H⟩ := bnd H
 refine seq_run0 (stp_call (k_gateref2_Moment v1 r2 h3) ⟨.inl rfl, trivial⟩) ?_
 refine seq_run0 (stp_not rfl) ?_
 obtain ⟨r4, h5, H⟩ := bnd H
 refine seq_run0 (stp_call (k_gatelaw2_when (!r2) 1 r4 h5) ⟨.inl rfl, .inl rfl, trivial⟩) ?_
 refine qe rfl ?_
 refine awp_ret ?_
 cases H
 exact ⟨trivial, .inl rfl, trivial⟩
theorem kn_gateref2_newBench (l1 : (List S_api_Instance)) (o2 : S_api_Outliers) (r : (S_gateref2_bench)) (H : m_gateref2_newBench l1 o2 = some r) : FnG Try.prog 38 [.dat (vlst (List.map C_api_Instance l1)), .dat (vagg (C_api_Outliers o2))] [] (.ptr 5 0) [(5, .box none 87 [.dat (vlst (List.map C_api_Instance r.l_)), .dat (vint r.o_.Fails), .dat (vint r.o_.Base), .dat (vint r.o_.Most), .dat (vint r.o_.Share), .mp 2, .mp 3, .mp 4]), (2, .opq none (mapIO Try.prog 9 3 r.row_.1 r.row_.2)), (3, .opq none (mapIO Try.prog 9 3 r.times_.1 r.times_.2)), (4, .opq none (mapIO Try.prog 9 3 r.until_.1 r.until_.2))] := by
 refine fnG_of (by kernel_rfl) Try.func38 rfl rfl rfl rfl fun X A hN => ?_
 unfold m_gateref2_newBench at H
 refine awp_seq ?_
 refine awp_plain hN rfl ?_
 refine seq_run2 (stp_boxA 1 rfl) rfl ?_
 refine qe rfl ?_
 refine awp_seq ?_
 refine awp_plain hN rfl ?_
 refine qd rfl ?_
 refine seq_run1 (stp_loadA tyS29 rfl rfl rfl) rfl ?_
 refine seq_run2 (stp_mkI 2 tyM85) rfl ?_
 refine seq_run2 (stp_mkI 3 tyM85) rfl ?_
 refine seq_run2 (stp_mkI 4 tyM85) rfl ?_
 refine seq_run0 (stp_slot (s' := .comp false [.dat (vlst (List.map C_api_Instance l1)), .dat (vint o2.Fails), .dat (vint o2.Base), .dat (vint o2.Most), .dat (vint o2.Share), .mp 2, .mp 3, .mp 4]) (stp_buildC [] [(0, [.dat (vlst (List.map C_api_Instance l1))]), (1, (C_api_Outliers o2).map .dat), (5, [.mp 2]), (6, [.mp 3]), (7, [.mp 4])] tyZ87 tyP87 rfl ⟨rfl, .inl ⟨_, .inl ⟨_, rfl, rfl, rfl⟩, rfl⟩, rfl, rfl, .inl ⟨_, .inr rfl, rfl⟩, rfl, rfl, .inr (.inr ⟨_, rfl, rfl⟩), rfl, rfl, .inr (.inr ⟨_, rfl, rfl⟩), rfl, rfl, .inr (.inr ⟨_, rfl, rfl⟩), rfl, trivial⟩) rfl) ?_
 refine seq_run2 (stp_boxC 5 rfl) rfl ?_
 refine seq_run0 (stp_assign (.ptr _ _) rfl) ?_
 refine awp_ret ?_
 cases H
 exact ⟨trivial, [(4, .ptr 5 0)], ⟨rfl, trivial⟩, ⟨rfl, rfl, rfl, rfl, trivial⟩, rfl, .inr (.inl ⟨4, rfl, rfl⟩)⟩
theorem ku_gateref2_bench_out (s1 : S_gateref2_bench) (v2 : Int) (r : ((List Bs))) (H : m_gateref2_bench_out s1 v2 = some r) : FnG Try.prog 40 [.ptr 0 0, .dat (vint v2)] [(0, .box (some 0) 87 [.dat (vlst (List.map C_api_Instance s1.l_)), .dat (vint s1.o_.Fails), .dat (vint s1.o_.Base), .dat (vint s1.o_.Most), .dat (vint s1.o_.Share), .mp 2, .mp 3, .mp 4]), (2, .opq (some 0) (mapIO Try.prog 9 3 s1.row_.1 s1.row_.2)), (3, .opq (some 0) (mapIO Try.prog 9 3 s1.times_.1 s1.times_.2)), (4, .opq (some 0) (mapIO Try.prog 9 3 s1.until_.1 s1.until_.2))] (.dat (resOf [vlst (List.map C_string r)])) [(0, .box (some 0) 87 [.dat (vlst (List.map C_api_Instance s1.l_)), .dat (vint s1.o_.Fails), .dat (vint s1.o_.Base), .dat (vint s1.o_.Most), .dat (vint s1.o_.Share), .mp 2, .mp 3, .mp 4]), (2, .opq (some 0) (mapIO Try.prog 9 3 s1.row_.1 s1.row_.2)), (3, .opq (some 0) (mapIO Try.prog 9 3 s1.times_.1 s1.times_.2)), (4, .opq (some 0) (mapIO Try.prog 9 3 s1.until_.1 s1.until_.2))] := by
 refine fnG_of (by kernel_rfl) Try.func40 rfl rfl rfl rfl fun X A hN => ?_
 unfold m_gateref2_bench_out at H
 refine awp_seq ?_
 refine awp_plain hN rfl ?_
 refine qe rfl ?_
 refine awp_seq ?_
 refine awp_plain hN rfl ?_
 refine qe rfl ?_
 refine awp_seq ?_
 refine awp_seq ?_
 refine awp_plain hN rfl ?_
 refine seq_run0 (stp_move (.ptr _ _) rfl) ?_
 refine seq_run0 (stp_nilP rfl) ?_
 refine seq_run0 (stp_fldP tyF87_0 rfl) ?_
 refine seq_run1 (stp_load1 tyS26 rfl rfl) rfl ?_
 refine seq_run0 (t_len tyU26 rfl) ?_
 refine qd rfl ?_
 refine awp_block ?_
 refine awp_nilrow 5 10 9 1 rfl rfl rfl ?_
 obtain ⟨h6, H⟩ := gif H
 refine awp_forL (fun (k4 : Nat) (s : (List Bs)) => [(0, .ptr 0 0), (1, .dat (vint v2)), (5, .row 10 s.length), (11, .dat (vlst (List.map C_api_Instance s1.l_))), (12, .dat (vint (s1.l_.length : Int))), (13, .dat (vint (k4 : Int)))]) (fun (k4 : Nat) (s : (List Bs)) => [(0, .box (some (A.bl 0)) 87 [.dat (vlst (List.map C_api_Instance s1.l_)), .dat (vint s1.o_.Fails), .dat (vint s1.o_.Base), .dat (vint s1.o_.Most), .dat (vint s1.o_.Share), .mp 2, .mp 3, .mp 4]), (2, .opq (some (A.bl 2)) (mapIO Try.prog 9 3 s1.row_.1 s1.row_.2)), (3, .opq (some (A.bl 3)) (mapIO Try.prog 9 3 s1.times_.1 s1.times_.2)), (4, .opq (some (A.bl 4)) (mapIO Try.prog 9 3 s1.until_.1 s1.until_.2)), (10, .row 9 1 (List.map C_string s))]) [] H ⟨rfl, rfl, rfl, rfl, rfl, rfl, trivial⟩ ⟨rfl, rfl, rfl, rfl, rfl, trivial⟩ (fun _ _ => rfl) ?_ ?_
 ·rintro l3 H
  replace H : gateref2_bench_out_E1 l3 = some r := H
  unfold gateref2_bench_out_E1 at H
  refine awp_seq ?_
  refine awp_plain hN rfl ?_
  refine seq_run0 (stp_lss rfl rfl) ?_
  refine awp_seq ?_
  refine awp_cond _ rfl (fun h => (lt_t h).elim) (fun h => ?_)
  refine awp_exit ?_
  refine awp_seq ?_
  refine awp_plain hN rfl ?_
  refine seq_run0 (stp_move (.row _ _) rfl) ?_
  refine seq_run0 (stp_assign (.row _ _) rfl) ?_
  refine t_freeze 4 10 rfl rfl rfl ?_
  refine awp_ret ?_
  have eH : l3 = r := Option.some.inj H
  subst eH
  exact ⟨trivial, [(4, .dat (vlst (List.map C_string l3)))], ⟨rfl, trivial⟩, ⟨rfl, rfl, rfl, rfl, trivial⟩, rfl, .inl ⟨[vlst (List.map C_string l3)], ⟨rfl, trivial⟩, rfl⟩⟩
 ·rintro k4 x7 l3 q5 h8 h9 H hq5
  replace H : gateref2_bench_out_L1 s1 v2 k4 x7 l3 = some q5 := H
  unfold gateref2_bench_out_L1 at H
  refine awp_seq ?_
  refine awp_plain hN rfl ?_
  refine seq_run0 (stp_lss rfl rfl) ?_
  refine awp_seq ?_
  refine awp_cond _ rfl (fun h => ?_) (fun h => (lt_f h8 h).elim)
  refine awp_skip ?_
  refine awp_joinE (ι := (List Bs)) (fun i => [(0, .ptr 0 0), (1, .dat (vint v2)), (5, .row 10 i.length), (11, .dat (vlst (List.map C_api_Instance s1.l_))), (12, .dat (vint (s1.l_.length : Int))), (13, .dat (vint (k4 : Int)))]) (fun i => [(0, .box (some (A.bl 0)) 87 [.dat (vlst (List.map C_api_Instance s1.l_)), .dat (vint s1.o_.Fails), .dat (vint s1.o_.Base), .dat (vint s1.o_.Most), .dat (vint s1.o_.Share), .mp 2, .mp 3, .mp 4]), (2, .opq (some (A.bl 2)) (mapIO Try.prog 9 3 s1.row_.1 s1.row_.2)), (3, .opq (some (A.bl 3)) (mapIO Try.prog 9 3 s1.times_.1 s1.times_.2)), (4, .opq (some (A.bl 4)) (mapIO Try.prog 9 3 s1.until_.1 s1.until_.2)), (10, .row 9 1 (List.map C_string i))]) (fun i => gateref2_bench_out_J2 i = some q5) (fun i => rfl) ?_ ?_
  ·skip
   refine awp_block ?_
   refine awp_seq ?_
   refine awp_plain hN rfl ?_
   refine seq_run0 (t_idx tyE26 (fun _ => rfl) rfl rfl h9) ?_
   refine seq_run0 (stp_loadEA tyS50 rfl (map_at h9) rfl) ?_
   refine seq_run2 (stp_alloc 11 tyZ50 rfl) rfl ?_
   refine seq_run2 (stp_storeW tyS50 rfl rfl rfl rfl) rfl ?_
   refine awp_seq ?_
   refine awp_draw mixed hN rfl rfl ?_
   refine qd rfl ?_
   refine seq_run0 (stp_move (.ptr _ _) rfl) ?_
   refine seq_run0 (stp_nilP rfl) ?_
   refine seq_run0 (stp_fldP tyF87_4 rfl) ?_
   refine seq_run1 (stp_load1 tyS85 rfl rfl) rfl ?_
   refine seq_run0 (stp_fldP tyF50_0 rfl) ?_
   refine seq_run1 (stp_load1 tyS9 rfl rfl) rfl ?_
   obtain ⟨h10, H⟩ := gif H
   refine seq_run1 (stp_lookI tyM85 rfl rfl h10) rfl ?_
   refine seq_run0 (stp_lss rfl rfl) ?_
   refine ⟨rfl, ?_⟩
   refine awp_cond _ rfl (fun h11 => ?_) (fun h11 => ?_)
   ·replace H := ift h11 H
    refine awp_plain hN rfl ?_
    refine seq_run0 (stp_move (.row _ _) rfl) ?_
    refine seq_run0 (stp_fldP tyF50_0 rfl) ?_
    refine seq_run1 (stp_load1 tyS9 rfl rfl) rfl ?_
    refine seq_run0 (stp_dat (u' := vlst (List.map C_string [x7.Key])) (stp_lit [[_]] tyL34 ⟨rfl, .inl ⟨_, rfl, rfl, rfl⟩, rfl, trivial⟩ rfl rfl) rfl) ?_
    obtain ⟨h12, H⟩ := gif H
    refine seq_run2 (t_app tyL34 (fun _ => rfl) rfl rfl rfl ⟨by simp, by first | (simp; done) | simpa using h12⟩ rfl) rfl ?_
    refine seq_run0 (stp_assign (.row _ _) rfl) ?_
    exact ⟨(l3 ++ [x7.Key]), H, ⟨rfl, rfl, rfl, rfl, rfl, rfl, trivial⟩, ⟨rfl, rfl, rfl, rfl, rfl, trivial⟩⟩
   ·replace H := iff_ h11 H
    refine awp_skip ?_
    exact ⟨l3, H, ⟨rfl, rfl, rfl, rfl, rfl, rfl, trivial⟩, ⟨rfl, rfl, rfl, rfl, rfl, trivial⟩⟩
  ·rintro out13 H
   replace H : gateref2_bench_out_J2 out13 = some q5 := H
   unfold gateref2_bench_out_J2 at H
   refine awp_plain hN rfl ?_
   refine seq_run0 (stp_add rfl rfl (by omega)) ?_
   refine qd rfl ?_
   exact ⟨_, backl H, ⟨rfl, rfl, rfl, rfl, rfl, rfl, trivial⟩, ⟨rfl, rfl, rfl, rfl, rfl, trivial⟩⟩
theorem k_gateref2_fails (status1 : Int) (r : (Bool)) (H : m_gateref2_fails status1 = some r) : Fn Try.prog 52 [vint status1] (resOf [vbool r]) := by
 refine ⟨by kernel_rfl, pure_of (us := [vbool r]) Try.func52 rfl rfl rfl rfl fun X hN => ?_⟩
 unfold m_gateref2_fails at H
 refine awp_seq ?_
 refine awp_plain hN rfl ?_
 refine qe rfl ?_
 refine awp_seq ?_
 refine awp_plain hN rfl ?_
 refine qd rfl ?_
 refine seq_run0 (stp_eql rfl rfl) ?_
 refine qd rfl ?_
 refine seq_aF rfl rfl (fun hc => stp_move (.dat _) rfl) ?_
 refine seq_aF rfl rfl (fun hc => stp_geq (cnd (c := (!(decide (status1 = 0)))) hc) rfl) ?_
 refine seq_run0 (stp_pick_or rfl rfl (fun hb => (cnd (c := (!(decide (status1 = 0)))) (notI hb)))) ?_
 refine qe rfl ?_
 refine awp_ret ?_
 cases H
 exact ⟨trivial, .inl rfl, trivial⟩
theorem ku_gateref2_bench_take (s1 : S_gateref2_bench) (v2 : S_api_Result) (r : (S_gateref2_bench)) (H : m_gateref2_bench_take s1 v2 = some r) : FnG Try.prog 39 [.ptr 0 0, .dat (vagg (C_api_Result v2))] [(0, .box (some 0) 87 [.dat (vlst (List.map C_api_Instance s1.l_)), .dat (vint s1.o_.Fails), .dat (vint s1.o_.Base), .dat (vint s1.o_.Most), .dat (vint s1.o_.Share), .mp 2, .mp 3, .mp 4]), (2, .opq (some 0) (mapIO Try.prog 9 3 s1.row_.1 s1.row_.2)), (3, .opq (some 0) (mapIO Try.prog 9 3 s1.times_.1 s1.times_.2)), (4, .opq (some 0) (mapIO Try.prog 9 3 s1.until_.1 s1.until_.2))] (.dat (resOf [])) [(0, .box (some 0) 87 [.dat (vlst (List.map C_api_Instance r.l_)), .dat (vint r.o_.Fails), .dat (vint r.o_.Base), .dat (vint r.o_.Most), .dat (vint r.o_.Share), .mp 2, .mp 3, .mp 4]), (2, .opq (some 0) (mapIO Try.prog 9 3 r.row_.1 r.row_.2)), (3, .opq (some 0) (mapIO Try.prog 9 3 r.times_.1 r.times_.2)), (4, .opq (some 0) (mapIO Try.prog 9 3 r.until_.1 r.until_.2))] := by
 refine fnG_of (by kernel_rfl) Try.func39 rfl rfl rfl rfl fun X A hN => ?_
 unfold m_gateref2_bench_take at H
 refine awp_seq ?_
 refine awp_plain hN rfl ?_
 refine seq_run2 (stp_boxA 10 rfl) rfl ?_
 refine awp_seq ?_
 refine awp_seq ?_
 refine awp_draw mixed hN rfl rfl ?_
 refine seq_run0 (stp_fldP tyF56_0 rfl) ?_
 refine seq_run1 (stp_load1 tyS3 rfl rfl) rfl ?_
 refine seq_run0 (stp_move (.ptr _ _) rfl) ?_
 refine seq_run0 (stp_nilP rfl) ?_
 refine seq_run0 (stp_fldP tyF87_4 rfl) ?_
 refine seq_run1 (stp_load1 tyS85 rfl rfl) rfl ?_
 refine seq_run0 (stp_fldP tyF56_1 rfl) ?_
 refine seq_run1 (stp_load1 tyS9 rfl rfl) rfl ?_
 obtain ⟨h3, H⟩ := gif H
 refine seq_run1 (stp_lookI tyM85 rfl rfl h3) rfl ?_
 refine seq_run0 (stp_lss rfl rfl) ?_
 refine ⟨rfl, ?_⟩
 refine awp_cond _ rfl (fun h4 => ?_) (fun h4 => ?_)
 ·replace H := ift h4 H
  refine awp_ret ?_
  cases H
  exact ⟨trivial, [], trivial, ⟨rfl, rfl, rfl, rfl, trivial⟩, rfl, .inl ⟨[], trivial, rfl⟩⟩
 ·replace H := iff_ h4 H
  refine awp_skip ?_
  refine awp_seq ?_
  refine awp_seq ?_
  refine awp_plain hN rfl ?_
  refine seq_run0 (stp_fldP tyF56_2 rfl) ?_
  refine seq_run1 (stp_load1 tyS3 rfl rfl) rfl ?_
  obtain ⟨r5, h6, H⟩ := bnd H
  refine seq_run0 (stp_call (k_gateref2_fails v2.Status r5 h6) ⟨.inl rfl, trivial⟩) ?_
  refine seq_run0 (stp_not rfl) ?_
  refine awp_cond _ rfl (fun h7 => ?_) (fun h7 => ?_)
  ·replace H := ift h7 H
   refine awp_seq ?_
   refine awp_draw mixed hN rfl rfl ?_
   refine seq_run0 (stp_move (.ptr _ _) rfl) ?_
   refine seq_run0 (stp_nilP rfl) ?_
   refine seq_run0 (stp_fldP tyF87_2 rfl) ?_
   refine seq_run1 (stp_load1 tyS85 rfl rfl) rfl ?_
   refine seq_run0 (stp_fldP tyF56_1 rfl) ?_
   refine seq_run1 (stp_load1 tyS9 rfl rfl) rfl ?_
   obtain ⟨h8, H⟩ := gif H
   refine seq_run2 (stp_putI tyM85 rfl rfl rfl h8.1 h8.2.1 h8.2.2) rfl ?_
   refine ⟨rfl, ?_⟩
   refine awp_ret ?_
   cases H
   exact ⟨trivial, [], trivial, ⟨rfl, rfl, rfl, rfl, trivial⟩, rfl, .inl ⟨[], trivial, rfl⟩⟩
  ·replace H := iff_ h7 H
   refine awp_skip ?_
   refine awp_seq ?_
   refine awp_draw mixed hN rfl rfl ?_
   refine seq_run0 (stp_move (.ptr _ _) rfl) ?_
   refine seq_run0 (stp_nilP rfl) ?_
   refine seq_run0 (stp_fldP tyF87_2 rfl) ?_
   refine seq_run1 (stp_load1 tyS85 rfl rfl) rfl ?_
   refine seq_run0 (stp_fldP tyF56_1 rfl) ?_
   refine seq_run1 (stp_load1 tyS9 rfl rfl) rfl ?_
   obtain ⟨h9, H⟩ := gif H
   refine seq_run1 (stp_lookI tyM85 rfl rfl h9) rfl ?_
   refine seq_run0 (stp_wrap _ rfl rfl (.inl ⟨rfl, rfl⟩)) ?_
   obtain ⟨h10, H⟩ := gif H
   refine seq_run2 (stp_putI tyM85 rfl rfl rfl h10.1 h10.2.1 h10.2.2) rfl ?_
   refine ⟨rfl, ?_⟩
   refine awp_seq ?_
   refine awp_seq ?_
   refine awp_draw mixed hN rfl rfl ?_
   refine seq_run0 (stp_move (.ptr _ _) rfl) ?_
   refine seq_run0 (stp_nilP rfl) ?_
   refine seq_run0 (stp_fldP tyF87_2 rfl) ?_
   refine seq_run1 (stp_load1 tyS85 rfl rfl) rfl ?_
   refine seq_run0 (stp_fldP tyF56_1 rfl) ?_
   refine seq_run1 (stp_load1 tyS9 rfl rfl) rfl ?_
   obtain ⟨h11, H⟩ := gif H
   refine seq_run1 (stp_lookI tyM85 rfl rfl h11) rfl ?_
   refine seq_run0 (stp_move (.ptr _ _) rfl) ?_
   refine seq_run0 (stp_nilP rfl) ?_
   refine seq_run0 (stp_fldP tyF87_1 rfl) ?_
   refine seq_run0 (stp_fldP tyF29_0 rfl) ?_
   refine seq_run1 (stp_load1 tyS3 rfl rfl) rfl ?_
   refine seq_run0 (stp_lss rfl rfl) ?_
   refine ⟨rfl, ?_⟩
   refine awp_cond _ rfl (fun h12 => ?_) (fun h12 => ?_)
   ·replace H := ift h12 H
    refine awp_ret ?_
    cases H
    exact ⟨trivial, [], trivial, ⟨rfl, rfl, rfl, rfl, trivial⟩, rfl, .inl ⟨[], trivial, rfl⟩⟩
   ·replace H := iff_ h12 H
    refine awp_skip ?_
    refine awp_seq ?_
    refine awp_draw mixed hN rfl rfl ?_
    refine seq_run0 (stp_move (.ptr _ _) rfl) ?_
    refine seq_run0 (stp_nilP rfl) ?_
    refine seq_run0 (stp_fldP tyF87_2 rfl) ?_
    refine seq_run1 (stp_load1 tyS85 rfl rfl) rfl ?_
    refine seq_run0 (stp_fldP tyF56_1 rfl) ?_
    refine seq_run1 (stp_load1 tyS9 rfl rfl) rfl ?_
    obtain ⟨h13, H⟩ := gif H
    refine seq_run2 (stp_putI tyM85 rfl rfl rfl h13.1 h13.2.1 h13.2.2) rfl ?_
    refine ⟨rfl, ?_⟩
    refine awp_seq ?_
    refine awp_seq ?_
    refine awp_draw mixed hN rfl rfl ?_
    refine seq_run0 (stp_move (.ptr _ _) rfl) ?_
    refine seq_run0 (stp_fldP tyF56_0 rfl) ?_
    refine seq_run1 (stp_load1 tyS3 rfl rfl) rfl ?_
    obtain ⟨r14, h15, H⟩ := bnd H
    refine seq_callW (rn [(0, 0), (2, 2), (3, 3), (4, 4)]) [(0, _, _, some _), (2, _, _, some _), (3, _, _, some _), (4, _, _, some _)] (ku_gateref2_bench_out (S_gateref2_bench.mk s1.l_ s1.o_ (((s1.row_.1 + 1) + 1), (upm (upm s1.row_.2 v2.Instance (wr ((s1.row_.2 v2.Instance) + 1))) v2.Instance 0)) (s1.times_.1, s1.times_.2) (s1.until_.1, s1.until_.2)) v2.At r14 h15) ⟨rfl, rfl, rfl, rfl, trivial⟩ ⟨.inl (.inl rfl), .inl (.inl rfl), trivial⟩ ⟨⟨⟨rfl, rfl⟩, trivial⟩, ⟨rfl, trivial⟩, ⟨rfl, trivial⟩, ⟨rfl, trivial⟩, trivial⟩ rfl rfl ?_
    refine seq_run0 (t_len tyU34 rfl) ?_
    refine seq_run0 (stp_wrap _ rfl rfl (.inl ⟨rfl, rfl⟩)) ?_
    refine seq_run0 (stp_wrap _ rfl rfl (.inr (.inr ⟨rfl, rfl⟩))) ?_
    refine seq_run0 (stp_move (.ptr _ _) rfl) ?_
    refine seq_run0 (stp_nilP rfl) ?_
    refine seq_run0 (stp_fldP tyF87_1 rfl) ?_
    refine seq_run0 (stp_fldP tyF29_3 rfl) ?_
    refine seq_run1 (stp_load1 tyS3 rfl rfl) rfl ?_
    refine seq_run0 (stp_move (.ptr _ _) rfl) ?_
    refine seq_run0 (stp_nilP rfl) ?_
    refine seq_run0 (stp_fldP tyF87_0 rfl) ?_
    refine seq_run1 (stp_load1 tyS26 rfl rfl) rfl ?_
    refine seq_run0 (t_len tyU26 rfl) ?_
    refine seq_run0 (stp_wrap _ rfl rfl (.inr (.inr ⟨rfl, rfl⟩))) ?_
    refine seq_run0 (stp_gtr rfl rfl) ?_
    refine ⟨rfl, ?_⟩
    refine awp_cond _ rfl (fun h16 => ?_) (fun h16 => ?_)
    ·replace H := ift h16 H
     refine awp_ret ?_
     cases H
     exact ⟨trivial, [], trivial, ⟨rfl, rfl, rfl, rfl, trivial⟩, rfl, .inl ⟨[], trivial, rfl⟩⟩
    ·replace H := iff_ h16 H
     refine awp_skip ?_
     refine awp_seq ?_
     refine awp_plain hN rfl ?_
     refine seq_run0 (stp_move (.ptr _ _) rfl) ?_
     refine seq_run0 (stp_nilP rfl) ?_
     refine seq_run0 (stp_fldP tyF87_1 rfl) ?_
     refine seq_run0 (stp_fldP tyF29_1 rfl) ?_
     refine seq_run1 (stp_load1 tyS3 rfl rfl) rfl ?_
     refine qe rfl ?_
     refine awp_seq ?_
     refine awp_seq ?_
     refine awp_draw mixed hN rfl rfl ?_
     refine seq_run0 (stp_move (.ptr _ _) rfl) ?_
     refine seq_run0 (stp_nilP rfl) ?_
     refine seq_run0 (stp_fldP tyF87_3 rfl) ?_
     refine seq_run1 (stp_load1 tyS85 rfl rfl) rfl ?_
     refine seq_run0 (stp_fldP tyF56_1 rfl) ?_
     refine seq_run1 (stp_load1 tyS9 rfl rfl) rfl ?_
     obtain ⟨h17, H⟩ := gif H
     refine seq_run1 (stp_lookI tyM85 rfl rfl h17) rfl ?_
     refine qd rfl ?_
     refine ⟨rfl, ?_⟩
     refine awp_block ?_
     obtain ⟨h21, H⟩ := gif H
     refine awp_rng (fun (k19 : Nat) (s : Int) => [(0, .ptr 0 0), (3, .ptr 10 0), (4, .dat (vint s)), (82, .dat (vint (s1.times_.2 v2.Instance))), (83, .dat (vint (k19 : Int)))]) (fun (k19 : Nat) (s : Int) => [(0, .box (some (A.bl 0)) 87 [.dat (vlst (List.map C_api_Instance s1.l_)), .dat (vint s1.o_.Fails), .dat (vint s1.o_.Base), .dat (vint s1.o_.Most), .dat (vint s1.o_.Share), .mp 2, .mp 3, .mp 4]), (2, .opq (some (A.bl 2)) (mapIO Try.prog 9 3 ((s1.row_.1 + 1) + 1) (upm (upm s1.row_.2 v2.Instance (wr ((s1.row_.2 v2.Instance) + 1))) v2.Instance 0))), (3, .opq (some (A.bl 3)) (mapIO Try.prog 9 3 s1.times_.1 s1.times_.2)), (4, .opq (some (A.bl 4)) (mapIO Try.prog 9 3 s1.until_.1 s1.until_.2)), (10, .box none 56 [.dat (vint v2.At), .dat (vstr v2.Instance), .dat (vint v2.Status)])]) s1.o_.Base H ⟨rfl, rfl, rfl, rfl, rfl, trivial⟩ ⟨rfl, rfl, rfl, rfl, rfl, trivial⟩ (fun _ _ => rfl) ?_ ?_
     ·rintro v18 H
      replace H : gateref2_bench_take_E1 s1 v2 v18 = some r := H
      unfold gateref2_bench_take_E1 at H
      refine awp_seq ?_
      refine awp_plain hN rfl ?_
      refine seq_run0 (stp_lss rfl rfl) ?_
      refine awp_seq ?_
      refine awp_cond _ rfl (fun h => (lt_tI h).elim) (fun h => ?_)
      refine awp_exit ?_
      refine awp_seq ?_
      refine awp_draw mixed hN rfl rfl ?_
      refine seq_run0 (stp_move (.ptr _ _) rfl) ?_
      refine seq_run0 (stp_nilP rfl) ?_
      refine seq_run0 (stp_fldP tyF87_3 rfl) ?_
      refine seq_run1 (stp_load1 tyS85 rfl rfl) rfl ?_
      refine seq_run0 (stp_fldP tyF56_1 rfl) ?_
      refine seq_run1 (stp_load1 tyS9 rfl rfl) rfl ?_
      obtain ⟨h22, H⟩ := gif H
      refine seq_run1 (stp_lookI tyM85 rfl rfl h22) rfl ?_
      refine seq_run0 (stp_wrap _ rfl rfl (.inl ⟨rfl, rfl⟩)) ?_
      obtain ⟨h23, H⟩ := gif H
      refine seq_run2 (stp_putI tyM85 rfl rfl rfl h23.1 h23.2.1 h23.2.2) rfl ?_
      refine ⟨rfl, ?_⟩
      refine awp_draw mixed hN rfl rfl ?_
      refine seq_run0 (stp_move (.ptr _ _) rfl) ?_
      refine seq_run0 (stp_nilP rfl) ?_
      refine seq_run0 (stp_fldP tyF87_4 rfl) ?_
      refine seq_run1 (stp_load1 tyS85 rfl rfl) rfl ?_
      refine seq_run0 (stp_fldP tyF56_1 rfl) ?_
      refine seq_run1 (stp_load1 tyS9 rfl rfl) rfl ?_
      refine seq_run0 (stp_fldP tyF56_0 rfl) ?_
      refine seq_run1 (stp_load1 tyS3 rfl rfl) rfl ?_
      refine qd rfl ?_
      refine seq_run0 (stp_wrap _ rfl rfl (.inl ⟨rfl, rfl⟩)) ?_
      obtain ⟨h24, H⟩ := gif H
      refine seq_run2 (stp_putI tyM85 rfl rfl rfl h24.1 h24.2.1 h24.2.2) rfl ?_
      refine ⟨rfl, ?_⟩
      cases H
      exact ⟨trivial, [], trivial, ⟨rfl, rfl, rfl, rfl, trivial⟩, rfl, .inl ⟨[], trivial, rfl⟩⟩
     ·rintro k19 v18 q20 h25 H hq20
      replace H : gateref2_bench_take_L1 s1 k19 v18 = some q20 := H
      unfold gateref2_bench_take_L1 at H
      refine awp_seq ?_
      refine awp_plain hN rfl ?_
      refine seq_run0 (stp_lss rfl rfl) ?_
      refine awp_seq ?_
      refine awp_cond _ rfl (fun h => ?_) (fun h => (lt_fI h25 h).elim)
      refine awp_skip ?_
      refine awp_seq ?_
      refine awp_block ?_
      refine awp_plain hN rfl ?_
      refine qd rfl ?_
      refine seq_run0 (stp_wrap _ rfl rfl (.inr (.inr ⟨rfl, rfl⟩))) ?_
      refine seq_run0 (stp_move (.ptr _ _) rfl) ?_
      refine seq_run0 (stp_nilP rfl) ?_
      refine seq_run0 (stp_fldP tyF87_1 rfl) ?_
      refine seq_run0 (stp_fldP tyF29_2 rfl) ?_
      refine seq_run1 (stp_load1 tyS3 rfl rfl) rfl ?_
      refine seq_run0 (stp_min rfl rfl) ?_
      refine qe rfl ?_
      refine awp_plain hN rfl ?_
      refine seq_run0 (stp_add rfl rfl (by omega)) ?_
      refine qd rfl ?_
      exact ⟨_, backl H, ⟨rfl, rfl, rfl, rfl, rfl, trivial⟩, ⟨rfl, rfl, rfl, rfl, rfl, trivial⟩⟩
theorem k_gateref2_OutOf (l1 : (List S_api_Instance)) (o2 : S_api_Outliers) (r3 : (List S_api_Result)) (v4 : Int) (r : ((List Bs))) (H : m_gateref2_OutOf l1 o2 r3 v4 = some r) : Fn Try.prog 15 [vlst (List.map C_api_Instance l1), vagg (C_api_Outliers o2), vlst (List.map C_api_Result r3), vint v4] (resOf [vlst (List.map C_string r)]) := by
 refine ⟨by kernel_rfl, pure_of (us := [vlst (List.map C_string r)]) Try.func15 rfl rfl rfl rfl fun X hN => ?_⟩
 unfold m_gateref2_OutOf at H
 refine awp_seq ?_
 refine awp_plain hN rfl ?_
 refine seq_run2 (stp_boxA 1 rfl) rfl ?_
 refine qe rfl ?_
 refine awp_seq ?_
 refine awp_plain hN rfl ?_
 refine qd rfl ?_
 refine seq_run1 (stp_loadA tyS29 rfl rfl rfl) rfl ?_
 obtain ⟨r5, h6, H⟩ := bnd H
 refine seq_callG (rn [(5, 2), (2, 3), (3, 4), (4, 5)]) [] [(5, _), (2, _), (3, _), (4, _)] (kn_gateref2_newBench l1 o2 r5 h6) ⟨rfl, rfl, rfl, rfl, trivial⟩ ⟨.inl (.inl rfl), .inl (.inl rfl), trivial⟩ trivial rfl ?_
 refine seq_run0 (stp_assign (.ptr _ _) rfl) ?_
 refine awp_seq ?_
 refine awp_seq ?_
 refine awp_plain hN rfl ?_
 refine qd rfl ?_
 refine seq_run0 (t_len tyU32 rfl) ?_
 refine qd rfl ?_
 refine awp_block ?_
 obtain ⟨h20, H⟩ := gif H
 refine awp_forL (fun (k18 : Nat) (s : (List S_api_Instance) × Int × Int × Int × Int × (Bs → Int) × Nat × (Bs → Int) × Nat × (Bs → Int) × Nat) => [(3, .dat (vint v4)), (9, .ptr 2 0), (15, .dat (vlst (List.map C_api_Result r3))), (16, .dat (vint (r3.length : Int))), (17, .dat (vint (k18 : Int)))]) (fun (k18 : Nat) (s : (List S_api_Instance) × Int × Int × Int × Int × (Bs → Int) × Nat × (Bs → Int) × Nat × (Bs → Int) × Nat) => [(2, .box none 87 [.dat (vlst (List.map C_api_Instance s.1)), .dat (vint s.2.1), .dat (vint s.2.2.1), .dat (vint s.2.2.2.1), .dat (vint s.2.2.2.2.1), .mp 3, .mp 4, .mp 5]), (3, .opq none (mapIO Try.prog 9 3 s.2.2.2.2.2.2.1 s.2.2.2.2.2.1)), (4, .opq none (mapIO Try.prog 9 3 s.2.2.2.2.2.2.2.2.1 s.2.2.2.2.2.2.2.1)), (5, .opq none (mapIO Try.prog 9 3 s.2.2.2.2.2.2.2.2.2.2 s.2.2.2.2.2.2.2.2.2.1))]) (r5.l_, r5.o_.Fails, r5.o_.Base, r5.o_.Most, r5.o_.Share, r5.row_.2, r5.row_.1, r5.times_.2, r5.times_.1, r5.until_.2, r5.until_.1) H ⟨rfl, rfl, rfl, rfl, rfl, trivial⟩ ⟨rfl, rfl, rfl, rfl, trivial⟩ (fun _ _ => rfl) ?_ ?_
 ·rintro ⟨c7, c8, c9, c10, c11, m12, m13, m14, m15, m16, m17⟩ H
  replace H : gateref2_OutOf_E1 v4 c7 c8 c9 c10 c11 m12 m13 m14 m15 m16 m17 = some r := H
  unfold gateref2_OutOf_E1 at H
  refine awp_seq ?_
  refine awp_plain hN rfl ?_
  refine seq_run0 (stp_lss rfl rfl) ?_
  refine awp_seq ?_
  refine awp_cond _ rfl (fun h => (lt_t h).elim) (fun h => ?_)
  refine awp_exit ?_
  refine awp_seq ?_
  refine awp_plain hN rfl ?_
  refine seq_run0 (stp_move (.ptr _ _) rfl) ?_
  refine qd rfl ?_
  obtain ⟨r22, h23, H⟩ := bnd H
  refine seq_callW (rn [(0, 2), (2, 3), (3, 4), (4, 5)]) [(0, _, _, some _), (2, _, _, some _), (3, _, _, some _), (4, _, _, some _)] (ku_gateref2_bench_out (S_gateref2_bench.mk c7 (S_api_Outliers.mk c8 c9 c10 c11) (m13, m12) (m15, m14) (m17, m16)) v4 r22 h23) ⟨rfl, rfl, rfl, rfl, trivial⟩ ⟨.inl (.inl rfl), .inl (.inl rfl), trivial⟩ ⟨⟨⟨rfl, rfl⟩, trivial⟩, ⟨rfl, trivial⟩, ⟨rfl, trivial⟩, ⟨rfl, trivial⟩, trivial⟩ rfl rfl ?_
  refine qe rfl ?_
  refine awp_ret ?_
  cases H
  exact ⟨trivial, .inl rfl, trivial⟩
 ·rintro k18 x21 ⟨c7, c8, c9, c10, c11, m12, m13, m14, m15, m16, m17⟩ q19 h24 h25 H hq19
  replace H : gateref2_OutOf_L1 v4 k18 x21 c7 c8 c9 c10 c11 m12 m13 m14 m15 m16 m17 = some q19 := H
  unfold gateref2_OutOf_L1 at H
  refine awp_seq ?_
  refine awp_plain hN rfl ?_
  refine seq_run0 (stp_lss rfl rfl) ?_
  refine awp_seq ?_
  refine awp_cond _ rfl (fun h => ?_) (fun h => (lt_f h24 h).elim)
  refine awp_skip ?_
  refine awp_joinE (ι := (List S_api_Instance) × Int × Int × Int × Int × (Bs → Int) × Nat × (Bs → Int) × Nat × (Bs → Int) × Nat) (fun i => [(3, .dat (vint v4)), (9, .ptr 2 0), (15, .dat (vlst (List.map C_api_Result r3))), (16, .dat (vint (r3.length : Int))), (17, .dat (vint (k18 : Int)))]) (fun i => [(2, .box none 87 [.dat (vlst (List.map C_api_Instance i.1)), .dat (vint i.2.1), .dat (vint i.2.2.1), .dat (vint i.2.2.2.1), .dat (vint i.2.2.2.2.1), .mp 3, .mp 4, .mp 5]), (3, .opq none (mapIO Try.prog 9 3 i.2.2.2.2.2.2.2.2.2.2 i.2.2.2.2.2.2.2.2.2.1)), (4, .opq none (mapIO Try.prog 9 3 i.2.2.2.2.2.2.2.2.1 i.2.2.2.2.2.2.2.1)), (5, .opq none (mapIO Try.prog 9 3 i.2.2.2.2.2.2.1 i.2.2.2.2.2.1))]) (fun i => gateref2_OutOf_J2 i.1 i.2.1 i.2.2.1 i.2.2.2.1 i.2.2.2.2.1 i.2.2.2.2.2.1 i.2.2.2.2.2.2.1 i.2.2.2.2.2.2.2.1 i.2.2.2.2.2.2.2.2.1 i.2.2.2.2.2.2.2.2.2.1 i.2.2.2.2.2.2.2.2.2.2 = some q19) (fun i => rfl) ?_ ?_
  ·skip
   refine awp_block ?_
   refine awp_seq ?_
   refine awp_plain hN rfl ?_
   refine seq_run0 (t_idx tyE32 (fun _ => rfl) rfl rfl h25) ?_
   refine seq_run0 (stp_loadEA tyS56 rfl (map_at h25) rfl) ?_
   refine seq_run2 (stp_alloc 6 tyZ56 rfl) rfl ?_
   refine seq_run2 (stp_storeW tyS56 rfl rfl rfl rfl) rfl ?_
   refine awp_seq ?_
   refine awp_plain hN rfl ?_
   refine seq_run0 (stp_fldP tyF56_0 rfl) ?_
   refine seq_run1 (stp_load1 tyS3 rfl rfl) rfl ?_
   refine qd rfl ?_
   refine seq_run0 (stp_leq rfl rfl) ?_
   refine awp_cond _ rfl (fun h26 => ?_) (fun h26 => ?_)
   ·replace H := ift h26 H
    refine awp_plain hN rfl ?_
    refine seq_run0 (stp_move (.ptr _ _) rfl) ?_
    refine seq_run1 (stp_loadA tyS56 rfl rfl rfl) rfl ?_
    obtain ⟨r27, h28, H⟩ := bnd H
    refine seq_callG (rn [(0, 2), (2, 3), (3, 4), (4, 5)]) [(0, _, _, some _), (2, _, _, some _), (3, _, _, some _), (4, _, _, some _)] [] (ku_gateref2_bench_take (S_gateref2_bench.mk c7 (S_api_Outliers.mk c8 c9 c10 c11) (m13, m12) (m15, m14) (m17, m16)) x21 r27 h28) ⟨rfl, rfl, rfl, rfl, trivial⟩ ⟨.inl (.inl rfl), .inl (.inl rfl), trivial⟩ ⟨⟨⟨rfl, rfl⟩, trivial⟩, ⟨rfl, trivial⟩, ⟨rfl, trivial⟩, ⟨rfl, trivial⟩, trivial⟩ rfl ?_
    exact ⟨(r27.l_, r27.o_.Fails, r27.o_.Base, r27.o_.Most, r27.o_.Share, r27.until_.2, r27.until_.1, r27.times_.2, r27.times_.1, r27.row_.2, r27.row_.1), H, ⟨rfl, rfl, rfl, rfl, rfl, trivial⟩, ⟨rfl, rfl, rfl, rfl, trivial⟩⟩
   ·replace H := iff_ h26 H
    refine awp_skip ?_
    exact ⟨(c7, c8, c9, c10, c11, m16, m17, m14, m15, m12, m13), H, ⟨rfl, rfl, rfl, rfl, rfl, trivial⟩, ⟨rfl, rfl, rfl, rfl, trivial⟩⟩
  ·rintro ⟨c29, c30, c31, c32, c33, m34, m35, m36, m37, m38, m39⟩ H
   replace H : gateref2_OutOf_J2 c29 c30 c31 c32 c33 m34 m35 m36 m37 m38 m39 = some q19 := H
   unfold gateref2_OutOf_J2 at H
   refine awp_plain hN rfl ?_
   refine seq_run0 (stp_add rfl rfl (by omega)) ?_
   refine qd rfl ?_
   exact ⟨_, backl H, ⟨rfl, rfl, rfl, rfl, rfl, trivial⟩, ⟨rfl, rfl, rfl, rfl, trivial⟩⟩
theorem k_slices_Equal_L_string_string_ (s1 : (List Bs)) (s2 : (List Bs)) (r : (Bool)) (H : m_slices_Equal_L_string_string_ s1 s2 = some r) : Fn Try.prog 16 [vlst (List.map C_string s1), vlst (List.map C_string s2)] (resOf [vbool r]) := by
 refine ⟨by kernel_rfl, pure_of (us := [vbool r]) Try.func16 rfl rfl rfl rfl fun X hN => ?_⟩
 unfold m_slices_Equal_L_string_string_ at H
 refine awp_seq ?_
 refine awp_plain hN rfl ?_
 refine qe rfl ?_
 refine awp_seq ?_
 refine awp_seq ?_
 refine awp_plain hN rfl ?_
 refine qd rfl ?_
 refine seq_run0 (t_len tyU34 rfl) ?_
 refine qd rfl ?_
 refine seq_run0 (t_len tyU34 rfl) ?_
 refine seq_run0 (stp_neq rfl rfl) ?_
 refine awp_cond _ rfl (fun h3 => ?_) (fun h3 => ?_)
 ·replace H := ift h3 H
  refine awp_seq ?_
  refine awp_plain hN rfl ?_
  refine qe rfl ?_
  refine awp_ret ?_
  cases H
  exact ⟨trivial, .inl rfl, trivial⟩
 ·replace H := iff_ h3 H
  refine awp_skip ?_
  refine awp_seq ?_
  refine awp_seq ?_
  refine awp_plain hN rfl ?_
  refine qd rfl ?_
  refine seq_run0 (t_len tyU34 rfl) ?_
  refine qd rfl ?_
  refine awp_block ?_
  obtain ⟨h6, H⟩ := gif H
  refine awp_forL (fun (k4 : Nat) (s : Unit) => [(0, .dat (vlst (List.map C_string s1))), (1, .dat (vlst (List.map C_string s2))), (12, .dat (vint (s1.length : Int))), (13, .dat (vint (k4 : Int)))]) (fun (k4 : Nat) (s : Unit) => []) () H ⟨rfl, rfl, rfl, rfl, trivial⟩ trivial (fun _ _ => rfl) ?_ ?_
  ·rintro ⟨⟩ H
   replace H : slices_Equal_L_string_string__E1 = some r := H
   unfold slices_Equal_L_string_string__E1 at H
   refine awp_seq ?_
   refine awp_plain hN rfl ?_
   refine seq_run0 (stp_lss rfl rfl) ?_
   refine awp_seq ?_
   refine awp_cond _ rfl (fun h => (lt_t h).elim) (fun h => ?_)
   refine awp_exit ?_
   refine awp_seq ?_
   refine awp_plain hN rfl ?_
   refine qe rfl ?_
   refine awp_ret ?_
   cases H
   exact ⟨trivial, .inl rfl, trivial⟩
  ·rintro k4 x7 ⟨⟩ q5 h8 h9 H hq5
   replace H : slices_Equal_L_string_string__L1 s2 k4 x7 = some q5 := H
   unfold slices_Equal_L_string_string__L1 at H
   refine awp_seq ?_
   refine awp_plain hN rfl ?_
   refine seq_run0 (stp_lss rfl rfl) ?_
   refine awp_seq ?_
   refine awp_cond _ rfl (fun h => ?_) (fun h => (lt_f h8 h).elim)
   refine awp_skip ?_
   refine awp_seq ?_
   refine awp_block ?_
   refine awp_seq ?_
   refine awp_plain hN rfl ?_
   refine qd rfl ?_
   refine qe rfl ?_
   refine awp_seq ?_
   refine awp_draw mixed hN rfl rfl ?_
   refine qd rfl ?_
   refine qd rfl ?_
   refine seq_run0 (t_idx tyE34 (fun _ => rfl) rfl rfl h9) ?_
   refine seq_run0 (stp_loadE1 tyS9 rfl (map_at h9) rfl) ?_
   refine qd rfl ?_
   refine qd rfl ?_
   obtain ⟨x10, h11, H⟩ := bnd H
   refine seq_run0 (t_idx tyE34 (fun _ => rfl) rfl rfl h11) ?_
   refine seq_run0 (stp_loadE1 tyS9 rfl (map_at h11) rfl) ?_
   refine seq_run0 (stp_sneq rfl rfl) ?_
   refine ⟨rfl, ?_⟩
   refine awp_cond _ rfl (fun h12 => ?_) (fun h12 => ?_)
   ·replace H := ift h12 H
    refine awp_seq ?_
    refine awp_plain hN rfl ?_
    refine qe rfl ?_
    refine awp_ret ?_
    replace H := retl H hq5
    cases H
    exact ⟨trivial, .inl rfl, trivial⟩
   ·replace H := iff_ h12 H
    refine awp_skip ?_
    refine awp_plain hN rfl ?_
    refine seq_run0 (stp_add rfl rfl (by omega)) ?_
    refine qd rfl ?_
    exact ⟨_, backl H, ⟨rfl, rfl, rfl, rfl, trivial⟩, trivial⟩
theorem k_upstream_weights (l1 : (List S_api_Instance)) (r : (Int)) (H : m_upstream_weights l1 = some r) : Fn Try.prog 53 [vlst (List.map C_api_Instance l1)] (resOf [vint r]) := by
 refine ⟨by kernel_rfl, pure_of (us := [vint r]) Try.func53 rfl rfl rfl rfl fun X hN => ?_⟩
 unfold m_upstream_weights at H
 refine awp_seq ?_
 refine awp_plain hN rfl ?_
 refine qe rfl ?_
 refine awp_seq ?_
 refine awp_plain hN rfl ?_
 refine qe rfl ?_
 refine awp_seq ?_
 refine awp_seq ?_
 refine awp_plain hN rfl ?_
 refine qd rfl ?_
 refine seq_run0 (t_len tyU26 rfl) ?_
 refine qd rfl ?_
 refine awp_block ?_
 obtain ⟨h5, H⟩ := gif H
 refine awp_forL (fun (k3 : Nat) (s : Int) => [(3, .dat (vint s)), (6, .dat (vlst (List.map C_api_Instance l1))), (7, .dat (vint (l1.length : Int))), (8, .dat (vint (k3 : Int)))]) (fun (k3 : Nat) (s : Int) => []) 0 H ⟨rfl, rfl, rfl, rfl, trivial⟩ trivial (fun _ _ => rfl) ?_ ?_
 ·rintro sum2 H
  replace H : upstream_weights_E1 sum2 = some r := H
  unfold upstream_weights_E1 at H
  refine awp_seq ?_
  refine awp_plain hN rfl ?_
  refine seq_run0 (stp_lss rfl rfl) ?_
  refine awp_seq ?_
  refine awp_cond _ rfl (fun h => (lt_t h).elim) (fun h => ?_)
  refine awp_exit ?_
  refine awp_seq ?_
  refine awp_plain hN rfl ?_
  refine qd rfl ?_
  refine qe rfl ?_
  refine awp_ret ?_
  cases H
  exact ⟨trivial, .inl rfl, trivial⟩
 ·rintro k3 x6 sum2 q4 h7 h8 H hq4
  replace H : upstream_weights_L1 k3 x6 sum2 = some q4 := H
  unfold upstream_weights_L1 at H
  refine awp_seq ?_
  refine awp_plain hN rfl ?_
  refine seq_run0 (stp_lss rfl rfl) ?_
  refine awp_seq ?_
  refine awp_cond _ rfl (fun h => ?_) (fun h => (lt_f h7 h).elim)
  refine awp_skip ?_
  refine awp_seq ?_
  refine awp_block ?_
  refine awp_seq ?_
  refine awp_plain hN rfl ?_
  refine seq_run0 (t_idx tyE26 (fun _ => rfl) rfl rfl h8) ?_
  refine seq_run0 (stp_loadEA tyS50 rfl (map_at h8) rfl) ?_
  refine seq_run2 (stp_alloc 1 tyZ50 rfl) rfl ?_
  refine seq_run2 (stp_storeW tyS50 rfl rfl rfl rfl) rfl ?_
  refine awp_plain hN rfl ?_
  refine qd rfl ?_
  refine seq_run0 (stp_fldP tyF50_1 rfl) ?_
  refine seq_run1 (stp_load1 tyS3 rfl rfl) rfl ?_
  refine seq_run0 (stp_wrap _ rfl rfl (.inl ⟨rfl, rfl⟩)) ?_
  refine qe rfl ?_
  refine awp_plain hN rfl ?_
  refine seq_run0 (stp_add rfl rfl (by omega)) ?_
  refine qd rfl ?_
  exact ⟨_, backl H, ⟨rfl, rfl, rfl, rfl, trivial⟩, trivial⟩
end Go.Proofs.Ytecnjgefohnkpaa
