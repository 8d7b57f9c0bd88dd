/- Setups: what the stream makes. -/
import Derived.Test.YtmcegaabopcmfaaFa
import Derived.Test.YtmcegaabopcmfaaAbsK
namespace Go.Proofs.Ytmcegaabopcmfaa
open Go.RowKit
set_option linter.unusedVariables false
set_option maxRecDepth 20000

theorem w_rightBudget {L : List Int} {a b1 b2 a' : Int} (x y z : Int) (i1 : GI L 14 [vlst (ints [1, 10, 50, 100, 1000])] (vint x) a b1) (i2 : GI L 14 [vlst (ints [0, 1, 2, 5])] (vint y) b1 b2) (i3 : GI L 14 [vlst (ints [0, 100, 333, 500, 1000])] (vint z) b2 a')  : Imp Try.prog 108 25 (St L a) [] (resOf [vagg (budV ⟨x, y, z⟩)]) (St L a') := by
  refine imp_of (us := [vagg (budV ⟨x, y, z⟩)]) (cs' := (St L a')) (by kernel_rfl) Try.func108 rfl rfl rfl rfl fun X bl hN => ?_
  refine awp_seq ?_
  refine awp_plain hN rfl ?_
  refine seq_run2 (stp_alloc 1 tyZ50 rfl) rfl ?_
  refine awp_seq ?_
  refine awp_plain hN rfl ?_
  first | refine seq_run0 (stp_move (.dat _) rfl) ?_ | refine seq_run0 (stp_move (.ptr _ _) rfl) ?_ | refine seq_run0 (stp_move (.row _ _) rfl) ?_ | refine seq_run0 (stp_move (.rptr _ _ _ _ _) rfl) ?_ | refine seq_run0 (stp_move (.mp _) rfl) ?_
  refine seq_run0 (stp_lit [[_], [_], [_], [_], [_]] tyL22 ⟨rfl, .inl ⟨_, rfl, rfl, rfl⟩, rfl, rfl, .inl ⟨_, rfl, rfl, rfl⟩, rfl, rfl, .inl ⟨_, rfl, rfl, rfl⟩, rfl, rfl, .inl ⟨_, rfl, rfl, rfl⟩, rfl, rfl, .inl ⟨_, rfl, rfl, rfl⟩, rfl, trivial⟩ rfl rfl) ?_
  refine seq_run2 (stp_imp (i1) rfl ⟨.inl rfl, trivial⟩ rfl) rfl ?_
  first | refine seq_run0 (stp_move (.dat _) rfl) ?_ | refine seq_run0 (stp_move (.ptr _ _) rfl) ?_ | refine seq_run0 (stp_move (.row _ _) rfl) ?_ | refine seq_run0 (stp_move (.rptr _ _ _ _ _) rfl) ?_ | refine seq_run0 (stp_move (.mp _) rfl) ?_
  refine seq_run0 (stp_lit [[_], [_], [_], [_]] tyL22 ⟨rfl, .inl ⟨_, rfl, rfl, rfl⟩, rfl, rfl, .inl ⟨_, rfl, rfl, rfl⟩, rfl, rfl, .inl ⟨_, rfl, rfl, rfl⟩, rfl, rfl, .inl ⟨_, rfl, rfl, rfl⟩, rfl, trivial⟩ rfl rfl) ?_
  refine seq_run2 (stp_imp (i2) rfl ⟨.inl rfl, trivial⟩ rfl) rfl ?_
  first | refine seq_run0 (stp_move (.dat _) rfl) ?_ | refine seq_run0 (stp_move (.ptr _ _) rfl) ?_ | refine seq_run0 (stp_move (.row _ _) rfl) ?_ | refine seq_run0 (stp_move (.rptr _ _ _ _ _) rfl) ?_ | refine seq_run0 (stp_move (.mp _) rfl) ?_
  refine seq_run0 (stp_lit [[_], [_], [_], [_], [_]] tyL22 ⟨rfl, .inl ⟨_, rfl, rfl, rfl⟩, rfl, rfl, .inl ⟨_, rfl, rfl, rfl⟩, rfl, rfl, .inl ⟨_, rfl, rfl, rfl⟩, rfl, rfl, .inl ⟨_, rfl, rfl, rfl⟩, rfl, rfl, .inl ⟨_, rfl, rfl, rfl⟩, rfl, trivial⟩ rfl rfl) ?_
  refine seq_run2 (stp_imp (i3) rfl ⟨.inl rfl, trivial⟩ rfl) rfl ?_
  refine seq_run0 (stp_build [(0, [_]), (1, [_]), (2, [_])] tyZ50 tyP50 rfl ⟨rfl, .inl ⟨_, rfl, rfl, rfl⟩, rfl, rfl, .inl ⟨_, rfl, rfl, rfl⟩, rfl, rfl, .inl ⟨_, rfl, rfl, rfl⟩, rfl, trivial⟩) ?_
  first | refine seq_run2 (stp_storeW tyS50 rfl rfl rfl rfl) rfl ?_ | refine seq_run2 (stp_storeA tyS50 rfl rfl rfl rfl) rfl ?_
  refine awp_ret ?_
  exact ⟨trivial, ⟨⟨_, _, _, budV ⟨x, y, z⟩, rfl, rfl, rfl, rfl, tyS50⟩, trivial⟩, rfl⟩
theorem w_budget_k {L : List Int} {a b1 a' : Int} (b : Bud) (i1 : GI L 108 [] (vagg (budV b)) a b1) (i2 : GI L 15 [vint 15] (vbool false) b1 a')  : Imp Try.prog 56 25 (St L a) [] (resOf [vagg (budV b)]) (St L a') := by
  refine imp_of (us := [vagg (budV b)]) (cs' := (St L a')) (by kernel_rfl) Try.func56 rfl rfl rfl rfl fun X bl hN => ?_
  refine awp_seq ?_
  refine awp_plain hN rfl ?_
  refine seq_run2 (stp_alloc 1 tyZ50 rfl) rfl ?_
  refine awp_seq ?_
  refine awp_plain hN rfl ?_
  first | refine seq_run0 (stp_move (.dat _) rfl) ?_ | refine seq_run0 (stp_move (.ptr _ _) rfl) ?_ | refine seq_run0 (stp_move (.row _ _) rfl) ?_ | refine seq_run0 (stp_move (.rptr _ _ _ _ _) rfl) ?_ | refine seq_run0 (stp_move (.mp _) rfl) ?_
  refine seq_run2 (stp_imp (i1) rfl trivial rfl) rfl ?_
  refine seq_run2 (stp_alloc 2 tyZ50 rfl) rfl ?_
  first | refine seq_run2 (stp_storeW tyS50 rfl rfl rfl rfl) rfl ?_ | refine seq_run2 (stp_storeA tyS50 rfl rfl rfl rfl) rfl ?_
  refine awp_seq ?_
  refine awp_seq ?_
  refine awp_plain hN rfl ?_
  first | refine seq_run0 (stp_move (.dat _) rfl) ?_ | refine seq_run0 (stp_move (.ptr _ _) rfl) ?_ | refine seq_run0 (stp_move (.row _ _) rfl) ?_ | refine seq_run0 (stp_move (.rptr _ _ _ _ _) rfl) ?_ | refine seq_run0 (stp_move (.mp _) rfl) ?_
  refine seq_run2 (stp_imp (i2) rfl ⟨.inl rfl, trivial⟩ rfl) rfl ?_
  refine awp_cond _ rfl (fun h1 => (by exfalso; simp at h1)) (fun h1 => ?_)
  try simp at h1
  refine awp_skip ?_
  refine awp_seq ?_
  refine awp_plain hN rfl ?_
  first | refine seq_run1 (stp_loadA tyS50 rfl rfl rfl) rfl ?_ | refine seq_run0 (stp_loadEA tyS50 rfl (by first | assumption | rfl) rfl) ?_ | refine seq_run1 (stp_loadRA tyS50 rfl (by first | rfl | omega | simp) (by first | assumption | exact List.getElem?_set_self (by simp; omega)) rfl) rfl ?_ | refine seq_run0 (stp_loadEP tyS50 rfl (by first | assumption | rfl) rfl) ?_
  first | refine seq_run2 (stp_storeW tyS50 rfl rfl rfl rfl) rfl ?_ | refine seq_run2 (stp_storeA tyS50 rfl rfl rfl rfl) rfl ?_
  refine awp_ret ?_
  exact ⟨trivial, ⟨⟨_, _, _, budV b, rfl, rfl, rfl, rfl, tyS50⟩, trivial⟩, rfl⟩
theorem w_budget_m {L : List Int} {a b1 b2 b3 b4 a' : Int} (b : Bud) (x y z : Int) (i1 : GI L 108 [] (vagg (budV b)) a b1) (i2 : GI L 15 [vint 15] (vbool true) b1 b2) (i3 : GI L 55 [vint 1, vint 3600000] (vint x) b2 b3) (i4 : GI L 55 [vint 0, vint 300] (vint y) b3 b4) (i5 : GI L 55 [vint 0, vint 1000] (vint z) b4 a')  : Imp Try.prog 56 25 (St L a) [] (resOf [vagg (budV ⟨x, y, z⟩)]) (St L a') := by
  refine imp_of (us := [vagg (budV ⟨x, y, z⟩)]) (cs' := (St L a')) (by kernel_rfl) Try.func56 rfl rfl rfl rfl fun X bl hN => ?_
  refine awp_seq ?_
  refine awp_plain hN rfl ?_
  refine seq_run2 (stp_alloc 1 tyZ50 rfl) rfl ?_
  refine awp_seq ?_
  refine awp_plain hN rfl ?_
  first | refine seq_run0 (stp_move (.dat _) rfl) ?_ | refine seq_run0 (stp_move (.ptr _ _) rfl) ?_ | refine seq_run0 (stp_move (.row _ _) rfl) ?_ | refine seq_run0 (stp_move (.rptr _ _ _ _ _) rfl) ?_ | refine seq_run0 (stp_move (.mp _) rfl) ?_
  refine seq_run2 (stp_imp (i1) rfl trivial rfl) rfl ?_
  refine seq_run2 (stp_alloc 2 tyZ50 rfl) rfl ?_
  first | refine seq_run2 (stp_storeW tyS50 rfl rfl rfl rfl) rfl ?_ | refine seq_run2 (stp_storeA tyS50 rfl rfl rfl rfl) rfl ?_
  refine awp_seq ?_
  refine awp_seq ?_
  refine awp_plain hN rfl ?_
  first | refine seq_run0 (stp_move (.dat _) rfl) ?_ | refine seq_run0 (stp_move (.ptr _ _) rfl) ?_ | refine seq_run0 (stp_move (.row _ _) rfl) ?_ | refine seq_run0 (stp_move (.rptr _ _ _ _ _) rfl) ?_ | refine seq_run0 (stp_move (.mp _) rfl) ?_
  refine seq_run2 (stp_imp (i2) rfl ⟨.inl rfl, trivial⟩ rfl) rfl ?_
  refine awp_cond _ rfl (fun h1 => ?_) (fun h1 => (by exfalso; simp at h1))
  try simp at h1
  refine awp_plain hN rfl ?_
  first | refine seq_run0 (stp_move (.dat _) rfl) ?_ | refine seq_run0 (stp_move (.ptr _ _) rfl) ?_ | refine seq_run0 (stp_move (.row _ _) rfl) ?_ | refine seq_run0 (stp_move (.rptr _ _ _ _ _) rfl) ?_ | refine seq_run0 (stp_move (.mp _) rfl) ?_
  refine seq_run2 (stp_imp (i3) rfl ⟨.inl rfl, .inl rfl, trivial⟩ rfl) rfl ?_
  first | refine seq_run0 (stp_move (.dat _) rfl) ?_ | refine seq_run0 (stp_move (.ptr _ _) rfl) ?_ | refine seq_run0 (stp_move (.row _ _) rfl) ?_ | refine seq_run0 (stp_move (.rptr _ _ _ _ _) rfl) ?_ | refine seq_run0 (stp_move (.mp _) rfl) ?_
  refine seq_run2 (stp_imp (i4) rfl ⟨.inl rfl, .inl rfl, trivial⟩ rfl) rfl ?_
  first | refine seq_run0 (stp_move (.dat _) rfl) ?_ | refine seq_run0 (stp_move (.ptr _ _) rfl) ?_ | refine seq_run0 (stp_move (.row _ _) rfl) ?_ | refine seq_run0 (stp_move (.rptr _ _ _ _ _) rfl) ?_ | refine seq_run0 (stp_move (.mp _) rfl) ?_
  refine seq_run2 (stp_imp (i5) rfl ⟨.inl rfl, .inl rfl, trivial⟩ rfl) rfl ?_
  refine seq_run0 (stp_build [(0, [_]), (1, [_]), (2, [_])] tyZ50 tyP50 rfl ⟨rfl, .inl ⟨_, rfl, rfl, rfl⟩, rfl, rfl, .inl ⟨_, rfl, rfl, rfl⟩, rfl, rfl, .inl ⟨_, rfl, rfl, rfl⟩, rfl, trivial⟩) ?_
  first | refine seq_run2 (stp_storeW tyS50 rfl rfl rfl rfl) rfl ?_ | refine seq_run2 (stp_storeA tyS50 rfl rfl rfl rfl) rfl ?_
  refine awp_seq ?_
  refine awp_plain hN rfl ?_
  first | refine seq_run1 (stp_loadA tyS50 rfl rfl rfl) rfl ?_ | refine seq_run0 (stp_loadEA tyS50 rfl (by first | assumption | rfl) rfl) ?_ | refine seq_run1 (stp_loadRA tyS50 rfl (by first | rfl | omega | simp) (by first | assumption | exact List.getElem?_set_self (by simp; omega)) rfl) rfl ?_ | refine seq_run0 (stp_loadEP tyS50 rfl (by first | assumption | rfl) rfl) ?_
  first | refine seq_run2 (stp_storeW tyS50 rfl rfl rfl rfl) rfl ?_ | refine seq_run2 (stp_storeA tyS50 rfl rfl rfl rfl) rfl ?_
  refine awp_ret ?_
  exact ⟨trivial, ⟨⟨_, _, _, budV ⟨x, y, z⟩, rfl, rfl, rfl, rfl, tyS50⟩, trivial⟩, rfl⟩
theorem w_rightOutliers {L : List Int} {a b1 b2 b3 a' : Int} (x y z m : Int) (hm : -1000 ≤ y * m ∧ y * m ≤ 1000) (i1 : GI L 14 [vlst (ints [1, 2, 2, 3])] (vint x) a b1) (i2 : GI L 14 [vlst (ints [1, 5, 10])] (vint y) b1 b2) (i3 : GI L 14 [vlst (ints [0, 333, 500, 1000])] (vint z) b2 b3) (i4 : GI L 14 [vlst (ints [1, 2, 3, 8])] (vint m) b3 a')  : Imp Try.prog 102 25 (St L a) [] (resOf [vagg (otlV ⟨x, y, y * m, z⟩)]) (St L a') := by
  refine imp_of (us := [vagg (otlV ⟨x, y, y * m, z⟩)]) (cs' := (St L a')) (by kernel_rfl) Try.func102 rfl rfl rfl rfl fun X bl hN => ?_
  refine awp_seq ?_
  refine awp_plain hN rfl ?_
  refine seq_run2 (stp_alloc 1 tyZ52 rfl) rfl ?_
  refine awp_seq ?_
  refine awp_plain hN rfl ?_
  first | refine seq_run0 (stp_move (.dat _) rfl) ?_ | refine seq_run0 (stp_move (.ptr _ _) rfl) ?_ | refine seq_run0 (stp_move (.row _ _) rfl) ?_ | refine seq_run0 (stp_move (.rptr _ _ _ _ _) rfl) ?_ | refine seq_run0 (stp_move (.mp _) rfl) ?_
  refine seq_run0 (stp_lit [[_], [_], [_], [_]] tyL22 ⟨rfl, .inl ⟨_, rfl, rfl, rfl⟩, rfl, rfl, .inl ⟨_, rfl, rfl, rfl⟩, rfl, rfl, .inl ⟨_, rfl, rfl, rfl⟩, rfl, rfl, .inl ⟨_, rfl, rfl, rfl⟩, rfl, trivial⟩ rfl rfl) ?_
  refine seq_run2 (stp_imp (i1) rfl ⟨.inl rfl, trivial⟩ rfl) rfl ?_
  first | refine seq_run0 (stp_move (.dat _) rfl) ?_ | refine seq_run0 (stp_move (.ptr _ _) rfl) ?_ | refine seq_run0 (stp_move (.row _ _) rfl) ?_ | refine seq_run0 (stp_move (.rptr _ _ _ _ _) rfl) ?_ | refine seq_run0 (stp_move (.mp _) rfl) ?_
  refine seq_run0 (stp_lit [[_], [_], [_]] tyL22 ⟨rfl, .inl ⟨_, rfl, rfl, rfl⟩, rfl, rfl, .inl ⟨_, rfl, rfl, rfl⟩, rfl, rfl, .inl ⟨_, rfl, rfl, rfl⟩, rfl, trivial⟩ rfl rfl) ?_
  refine seq_run2 (stp_imp (i2) rfl ⟨.inl rfl, trivial⟩ rfl) rfl ?_
  first | refine seq_run0 (stp_move (.dat _) rfl) ?_ | refine seq_run0 (stp_move (.ptr _ _) rfl) ?_ | refine seq_run0 (stp_move (.row _ _) rfl) ?_ | refine seq_run0 (stp_move (.rptr _ _ _ _ _) rfl) ?_ | refine seq_run0 (stp_move (.mp _) rfl) ?_
  refine seq_run0 (stp_lit [[_], [_], [_], [_]] tyL22 ⟨rfl, .inl ⟨_, rfl, rfl, rfl⟩, rfl, rfl, .inl ⟨_, rfl, rfl, rfl⟩, rfl, rfl, .inl ⟨_, rfl, rfl, rfl⟩, rfl, rfl, .inl ⟨_, rfl, rfl, rfl⟩, rfl, trivial⟩ rfl rfl) ?_
  refine seq_run2 (stp_imp (i3) rfl ⟨.inl rfl, trivial⟩ rfl) rfl ?_
  refine seq_run0 (stp_build [(0, [_]), (1, [_]), (3, [_])] tyZ52 tyP52 rfl ⟨rfl, .inl ⟨_, rfl, rfl, rfl⟩, rfl, rfl, .inl ⟨_, rfl, rfl, rfl⟩, rfl, rfl, .inl ⟨_, rfl, rfl, rfl⟩, rfl, trivial⟩) ?_
  refine seq_run2 (stp_alloc 5 tyZ52 rfl) rfl ?_
  first | refine seq_run2 (stp_storeW tyS52 rfl rfl rfl rfl) rfl ?_ | refine seq_run2 (stp_storeA tyS52 rfl rfl rfl rfl) rfl ?_
  refine awp_seq ?_
  refine awp_draw mixed hN rfl rfl ?_
  first | refine seq_run0 (stp_fldP tyF52_1 rfl) ?_ | refine seq_run0 (stp_fldE tyF52_1 rfl) ?_ | refine seq_run0 (stp_fldR tyF52_1 rfl) ?_
  first | refine seq_run1 (stp_load1 tyS3 rfl rfl) rfl ?_ | refine seq_run0 (stp_loadE1 tyS3 rfl (by first | assumption | rfl) rfl) ?_ | refine seq_run1 (stp_loadR1 tyS3 rfl (by first | rfl | omega | simp) (by first | assumption | exact List.getElem?_set_self (by simp; omega)) rfl) rfl ?_
  first | refine seq_run0 (stp_move (.dat _) rfl) ?_ | refine seq_run0 (stp_move (.ptr _ _) rfl) ?_ | refine seq_run0 (stp_move (.row _ _) rfl) ?_ | refine seq_run0 (stp_move (.rptr _ _ _ _ _) rfl) ?_ | refine seq_run0 (stp_move (.mp _) rfl) ?_
  refine seq_run0 (stp_lit [[_], [_], [_], [_]] tyL22 ⟨rfl, .inl ⟨_, rfl, rfl, rfl⟩, rfl, rfl, .inl ⟨_, rfl, rfl, rfl⟩, rfl, rfl, .inl ⟨_, rfl, rfl, rfl⟩, rfl, rfl, .inl ⟨_, rfl, rfl, rfl⟩, rfl, trivial⟩ rfl rfl) ?_
  refine seq_run2 (stp_imp (i4) rfl ⟨.inl rfl, trivial⟩ rfl) rfl ?_
  refine seq_run0 (stp_mul rfl rfl (by omega)) ?_
  first | refine seq_run0 (stp_fldP tyF52_2 rfl) ?_ | refine seq_run0 (stp_fldE tyF52_2 rfl) ?_ | refine seq_run0 (stp_fldR tyF52_2 rfl) ?_
  first | refine seq_run2 (stp_store1 tyS3 rfl rfl rfl rfl) rfl ?_ | refine seq_run2 (stp_storeS tyS3 rfl rfl rfl rfl) rfl ?_ | refine seq_run2 (stp_storeR tyS3 rfl rfl rfl (by first | rfl | omega | simp) (by first | assumption | exact List.getElem?_set_self (by simp; omega)) rfl) rfl ?_
  refine ⟨rfl, ?_⟩
  refine awp_seq ?_
  refine awp_plain hN rfl ?_
  first | refine seq_run1 (stp_loadA tyS52 rfl rfl rfl) rfl ?_ | refine seq_run0 (stp_loadEA tyS52 rfl (by first | assumption | rfl) rfl) ?_ | refine seq_run1 (stp_loadRA tyS52 rfl (by first | rfl | omega | simp) (by first | assumption | exact List.getElem?_set_self (by simp; omega)) rfl) rfl ?_ | refine seq_run0 (stp_loadEP tyS52 rfl (by first | assumption | rfl) rfl) ?_
  first | refine seq_run2 (stp_storeW tyS52 rfl rfl rfl rfl) rfl ?_ | refine seq_run2 (stp_storeA tyS52 rfl rfl rfl rfl) rfl ?_
  refine awp_ret ?_
  exact ⟨trivial, ⟨⟨_, _, _, otlV ⟨x, y, y * m, z⟩, rfl, rfl, rfl, rfl, tyS52⟩, trivial⟩, rfl⟩
theorem w_outliers_k {L : List Int} {a b1 a' : Int} (o : Otl) (i1 : GI L 102 [] (vagg (otlV o)) a b1) (i2 : GI L 15 [vint 15] (vbool false) b1 a')  : Imp Try.prog 48 25 (St L a) [] (resOf [vagg (otlV o)]) (St L a') := by
  refine imp_of (us := [vagg (otlV o)]) (cs' := (St L a')) (by kernel_rfl) Try.func48 rfl rfl rfl rfl fun X bl hN => ?_
  refine awp_seq ?_
  refine awp_plain hN rfl ?_
  refine seq_run2 (stp_alloc 1 tyZ52 rfl) rfl ?_
  refine awp_seq ?_
  refine awp_plain hN rfl ?_
  first | refine seq_run0 (stp_move (.dat _) rfl) ?_ | refine seq_run0 (stp_move (.ptr _ _) rfl) ?_ | refine seq_run0 (stp_move (.row _ _) rfl) ?_ | refine seq_run0 (stp_move (.rptr _ _ _ _ _) rfl) ?_ | refine seq_run0 (stp_move (.mp _) rfl) ?_
  refine seq_run2 (stp_imp (i1) rfl trivial rfl) rfl ?_
  refine seq_run2 (stp_alloc 2 tyZ52 rfl) rfl ?_
  first | refine seq_run2 (stp_storeW tyS52 rfl rfl rfl rfl) rfl ?_ | refine seq_run2 (stp_storeA tyS52 rfl rfl rfl rfl) rfl ?_
  refine awp_seq ?_
  refine awp_seq ?_
  refine awp_plain hN rfl ?_
  first | refine seq_run0 (stp_move (.dat _) rfl) ?_ | refine seq_run0 (stp_move (.ptr _ _) rfl) ?_ | refine seq_run0 (stp_move (.row _ _) rfl) ?_ | refine seq_run0 (stp_move (.rptr _ _ _ _ _) rfl) ?_ | refine seq_run0 (stp_move (.mp _) rfl) ?_
  refine seq_run2 (stp_imp (i2) rfl ⟨.inl rfl, trivial⟩ rfl) rfl ?_
  refine awp_cond _ rfl (fun h1 => (by exfalso; simp at h1)) (fun h1 => ?_)
  try simp at h1
  refine awp_skip ?_
  refine awp_seq ?_
  refine awp_plain hN rfl ?_
  first | refine seq_run1 (stp_loadA tyS52 rfl rfl rfl) rfl ?_ | refine seq_run0 (stp_loadEA tyS52 rfl (by first | assumption | rfl) rfl) ?_ | refine seq_run1 (stp_loadRA tyS52 rfl (by first | rfl | omega | simp) (by first | assumption | exact List.getElem?_set_self (by simp; omega)) rfl) rfl ?_ | refine seq_run0 (stp_loadEP tyS52 rfl (by first | assumption | rfl) rfl) ?_
  first | refine seq_run2 (stp_storeW tyS52 rfl rfl rfl rfl) rfl ?_ | refine seq_run2 (stp_storeA tyS52 rfl rfl rfl rfl) rfl ?_
  refine awp_ret ?_
  exact ⟨trivial, ⟨⟨_, _, _, otlV o, rfl, rfl, rfl, rfl, tyS52⟩, trivial⟩, rfl⟩
theorem w_outliers_m {L : List Int} {a b1 b2 b3 b4 b5 a' : Int} (o : Otl) (x y z q : Int) (i1 : GI L 102 [] (vagg (otlV o)) a b1) (i2 : GI L 15 [vint 15] (vbool true) b1 b2) (i3 : GI L 55 [vint 1, vint 100] (vint x) b2 b3) (i4 : GI L 55 [vint 1, vint 20] (vint y) b3 b4) (i5 : GI L 55 [vint 1, vint 3600000] (vint z) b4 b5) (i6 : GI L 55 [vint 0, vint 1000] (vint q) b5 a')  : Imp Try.prog 48 25 (St L a) [] (resOf [vagg (otlV ⟨x, y, z, q⟩)]) (St L a') := by
  refine imp_of (us := [vagg (otlV ⟨x, y, z, q⟩)]) (cs' := (St L a')) (by kernel_rfl) Try.func48 rfl rfl rfl rfl fun X bl hN => ?_
  refine awp_seq ?_
  refine awp_plain hN rfl ?_
  refine seq_run2 (stp_alloc 1 tyZ52 rfl) rfl ?_
  refine awp_seq ?_
  refine awp_plain hN rfl ?_
  first | refine seq_run0 (stp_move (.dat _) rfl) ?_ | refine seq_run0 (stp_move (.ptr _ _) rfl) ?_ | refine seq_run0 (stp_move (.row _ _) rfl) ?_ | refine seq_run0 (stp_move (.rptr _ _ _ _ _) rfl) ?_ | refine seq_run0 (stp_move (.mp _) rfl) ?_
  refine seq_run2 (stp_imp (i1) rfl trivial rfl) rfl ?_
  refine seq_run2 (stp_alloc 2 tyZ52 rfl) rfl ?_
  first | refine seq_run2 (stp_storeW tyS52 rfl rfl rfl rfl) rfl ?_ | refine seq_run2 (stp_storeA tyS52 rfl rfl rfl rfl) rfl ?_
  refine awp_seq ?_
  refine awp_seq ?_
  refine awp_plain hN rfl ?_
  first | refine seq_run0 (stp_move (.dat _) rfl) ?_ | refine seq_run0 (stp_move (.ptr _ _) rfl) ?_ | refine seq_run0 (stp_move (.row _ _) rfl) ?_ | refine seq_run0 (stp_move (.rptr _ _ _ _ _) rfl) ?_ | refine seq_run0 (stp_move (.mp _) rfl) ?_
  refine seq_run2 (stp_imp (i2) rfl ⟨.inl rfl, trivial⟩ rfl) rfl ?_
  refine awp_cond _ rfl (fun h1 => ?_) (fun h1 => (by exfalso; simp at h1))
  try simp at h1
  refine awp_plain hN rfl ?_
  first | refine seq_run0 (stp_move (.dat _) rfl) ?_ | refine seq_run0 (stp_move (.ptr _ _) rfl) ?_ | refine seq_run0 (stp_move (.row _ _) rfl) ?_ | refine seq_run0 (stp_move (.rptr _ _ _ _ _) rfl) ?_ | refine seq_run0 (stp_move (.mp _) rfl) ?_
  refine seq_run2 (stp_imp (i3) rfl ⟨.inl rfl, .inl rfl, trivial⟩ rfl) rfl ?_
  first | refine seq_run0 (stp_move (.dat _) rfl) ?_ | refine seq_run0 (stp_move (.ptr _ _) rfl) ?_ | refine seq_run0 (stp_move (.row _ _) rfl) ?_ | refine seq_run0 (stp_move (.rptr _ _ _ _ _) rfl) ?_ | refine seq_run0 (stp_move (.mp _) rfl) ?_
  refine seq_run2 (stp_imp (i4) rfl ⟨.inl rfl, .inl rfl, trivial⟩ rfl) rfl ?_
  first | refine seq_run0 (stp_move (.dat _) rfl) ?_ | refine seq_run0 (stp_move (.ptr _ _) rfl) ?_ | refine seq_run0 (stp_move (.row _ _) rfl) ?_ | refine seq_run0 (stp_move (.rptr _ _ _ _ _) rfl) ?_ | refine seq_run0 (stp_move (.mp _) rfl) ?_
  refine seq_run2 (stp_imp (i5) rfl ⟨.inl rfl, .inl rfl, trivial⟩ rfl) rfl ?_
  first | refine seq_run0 (stp_move (.dat _) rfl) ?_ | refine seq_run0 (stp_move (.ptr _ _) rfl) ?_ | refine seq_run0 (stp_move (.row _ _) rfl) ?_ | refine seq_run0 (stp_move (.rptr _ _ _ _ _) rfl) ?_ | refine seq_run0 (stp_move (.mp _) rfl) ?_
  refine seq_run2 (stp_imp (i6) rfl ⟨.inl rfl, .inl rfl, trivial⟩ rfl) rfl ?_
  first | refine seq_run0 (stp_fldP tyF52_0 rfl) ?_ | refine seq_run0 (stp_fldE tyF52_0 rfl) ?_ | refine seq_run0 (stp_fldR tyF52_0 rfl) ?_
  first | refine seq_run2 (stp_store1 tyS3 rfl rfl rfl rfl) rfl ?_ | refine seq_run2 (stp_storeS tyS3 rfl rfl rfl rfl) rfl ?_ | refine seq_run2 (stp_storeR tyS3 rfl rfl rfl (by first | rfl | omega | simp) (by first | assumption | exact List.getElem?_set_self (by simp; omega)) rfl) rfl ?_
  first | refine seq_run0 (stp_fldP tyF52_1 rfl) ?_ | refine seq_run0 (stp_fldE tyF52_1 rfl) ?_ | refine seq_run0 (stp_fldR tyF52_1 rfl) ?_
  first | refine seq_run2 (stp_store1 tyS3 rfl rfl rfl rfl) rfl ?_ | refine seq_run2 (stp_storeS tyS3 rfl rfl rfl rfl) rfl ?_ | refine seq_run2 (stp_storeR tyS3 rfl rfl rfl (by first | rfl | omega | simp) (by first | assumption | exact List.getElem?_set_self (by simp; omega)) rfl) rfl ?_
  first | refine seq_run0 (stp_fldP tyF52_2 rfl) ?_ | refine seq_run0 (stp_fldE tyF52_2 rfl) ?_ | refine seq_run0 (stp_fldR tyF52_2 rfl) ?_
  first | refine seq_run2 (stp_store1 tyS3 rfl rfl rfl rfl) rfl ?_ | refine seq_run2 (stp_storeS tyS3 rfl rfl rfl rfl) rfl ?_ | refine seq_run2 (stp_storeR tyS3 rfl rfl rfl (by first | rfl | omega | simp) (by first | assumption | exact List.getElem?_set_self (by simp; omega)) rfl) rfl ?_
  first | refine seq_run0 (stp_fldP tyF52_3 rfl) ?_ | refine seq_run0 (stp_fldE tyF52_3 rfl) ?_ | refine seq_run0 (stp_fldR tyF52_3 rfl) ?_
  first | refine seq_run2 (stp_store1 tyS3 rfl rfl rfl rfl) rfl ?_ | refine seq_run2 (stp_storeS tyS3 rfl rfl rfl rfl) rfl ?_ | refine seq_run2 (stp_storeR tyS3 rfl rfl rfl (by first | rfl | omega | simp) (by first | assumption | exact List.getElem?_set_self (by simp; omega)) rfl) rfl ?_
  refine awp_seq ?_
  refine awp_plain hN rfl ?_
  first | refine seq_run1 (stp_loadA tyS52 rfl rfl rfl) rfl ?_ | refine seq_run0 (stp_loadEA tyS52 rfl (by first | assumption | rfl) rfl) ?_ | refine seq_run1 (stp_loadRA tyS52 rfl (by first | rfl | omega | simp) (by first | assumption | exact List.getElem?_set_self (by simp; omega)) rfl) rfl ?_ | refine seq_run0 (stp_loadEP tyS52 rfl (by first | assumption | rfl) rfl) ?_
  first | refine seq_run2 (stp_storeW tyS52 rfl rfl rfl rfl) rfl ?_ | refine seq_run2 (stp_storeA tyS52 rfl rfl rfl rfl) rfl ?_
  refine awp_ret ?_
  exact ⟨trivial, ⟨⟨_, _, _, otlV ⟨x, y, z, q⟩, rfl, rfl, rfl, rfl, tyS52⟩, trivial⟩, rfl⟩
theorem w_rightSetup {L : List Int} {a b1 b2 b3 b4 b5 b6 a' : Int} (xs : List Inst) (x y z m : Int) (b : Bud) (o : Otl) (hm : -1000 ≤ z * m ∧ z * m ≤ 1000) (i1 : GI L 98 [] (vlst (xs.map instE)) a b1) (i2 : GI L 14 [vlst (ints [1, 2, 3, 5])] (vint x) b1 b2) (i3 : GI L 14 [vlst (ints [1, 10, 20, 50])] (vint y) b2 b3) (i4 : GI L 14 [vlst (ints [0, 0, 5, 10])] (vint z) b3 b4) (i5 : GI L 108 [] (vagg (budV b)) b4 b5) (i6 : GI L 102 [] (vagg (otlV o)) b5 b6) (i7 : GI L 14 [vlst (ints [1, 2, 4])] (vint m) b6 a')  : Imp Try.prog 86 25 (St L a) [] (resOf [vagg (stpV ⟨xs, x, y, z, z * m, b, o⟩)]) (St L a') := by
  refine imp_of (us := [vagg (stpV ⟨xs, x, y, z, z * m, b, o⟩)]) (cs' := (St L a')) (by kernel_rfl) Try.func86 rfl rfl rfl rfl fun X bl hN => ?_
  refine awp_seq ?_
  refine awp_plain hN rfl ?_
  refine seq_run2 (stp_alloc 1 tyZ54 rfl) rfl ?_
  refine awp_seq ?_
  refine awp_plain hN rfl ?_
  first | refine seq_run0 (stp_move (.dat _) rfl) ?_ | refine seq_run0 (stp_move (.ptr _ _) rfl) ?_ | refine seq_run0 (stp_move (.row _ _) rfl) ?_ | refine seq_run0 (stp_move (.rptr _ _ _ _ _) rfl) ?_ | refine seq_run0 (stp_move (.mp _) rfl) ?_
  refine seq_run2 (stp_imp (i1) rfl trivial rfl) rfl ?_
  first | refine seq_run0 (stp_move (.dat _) rfl) ?_ | refine seq_run0 (stp_move (.ptr _ _) rfl) ?_ | refine seq_run0 (stp_move (.row _ _) rfl) ?_ | refine seq_run0 (stp_move (.rptr _ _ _ _ _) rfl) ?_ | refine seq_run0 (stp_move (.mp _) rfl) ?_
  refine seq_run0 (stp_lit [[_], [_], [_], [_]] tyL22 ⟨rfl, .inl ⟨_, rfl, rfl, rfl⟩, rfl, rfl, .inl ⟨_, rfl, rfl, rfl⟩, rfl, rfl, .inl ⟨_, rfl, rfl, rfl⟩, rfl, rfl, .inl ⟨_, rfl, rfl, rfl⟩, rfl, trivial⟩ rfl rfl) ?_
  refine seq_run2 (stp_imp (i2) rfl ⟨.inl rfl, trivial⟩ rfl) rfl ?_
  first | refine seq_run0 (stp_move (.dat _) rfl) ?_ | refine seq_run0 (stp_move (.ptr _ _) rfl) ?_ | refine seq_run0 (stp_move (.row _ _) rfl) ?_ | refine seq_run0 (stp_move (.rptr _ _ _ _ _) rfl) ?_ | refine seq_run0 (stp_move (.mp _) rfl) ?_
  refine seq_run0 (stp_lit [[_], [_], [_], [_]] tyL22 ⟨rfl, .inl ⟨_, rfl, rfl, rfl⟩, rfl, rfl, .inl ⟨_, rfl, rfl, rfl⟩, rfl, rfl, .inl ⟨_, rfl, rfl, rfl⟩, rfl, rfl, .inl ⟨_, rfl, rfl, rfl⟩, rfl, trivial⟩ rfl rfl) ?_
  refine seq_run2 (stp_imp (i3) rfl ⟨.inl rfl, trivial⟩ rfl) rfl ?_
  first | refine seq_run0 (stp_move (.dat _) rfl) ?_ | refine seq_run0 (stp_move (.ptr _ _) rfl) ?_ | refine seq_run0 (stp_move (.row _ _) rfl) ?_ | refine seq_run0 (stp_move (.rptr _ _ _ _ _) rfl) ?_ | refine seq_run0 (stp_move (.mp _) rfl) ?_
  refine seq_run0 (stp_lit [[_], [_], [_], [_]] tyL22 ⟨rfl, .inl ⟨_, rfl, rfl, rfl⟩, rfl, rfl, .inl ⟨_, rfl, rfl, rfl⟩, rfl, rfl, .inl ⟨_, rfl, rfl, rfl⟩, rfl, rfl, .inl ⟨_, rfl, rfl, rfl⟩, rfl, trivial⟩ rfl rfl) ?_
  refine seq_run2 (stp_imp (i4) rfl ⟨.inl rfl, trivial⟩ rfl) rfl ?_
  first | refine seq_run0 (stp_move (.dat _) rfl) ?_ | refine seq_run0 (stp_move (.ptr _ _) rfl) ?_ | refine seq_run0 (stp_move (.row _ _) rfl) ?_ | refine seq_run0 (stp_move (.rptr _ _ _ _ _) rfl) ?_ | refine seq_run0 (stp_move (.mp _) rfl) ?_
  refine seq_run2 (stp_imp (i5) rfl trivial rfl) rfl ?_
  first | refine seq_run0 (stp_move (.dat _) rfl) ?_ | refine seq_run0 (stp_move (.ptr _ _) rfl) ?_ | refine seq_run0 (stp_move (.row _ _) rfl) ?_ | refine seq_run0 (stp_move (.rptr _ _ _ _ _) rfl) ?_ | refine seq_run0 (stp_move (.mp _) rfl) ?_
  refine seq_run2 (stp_imp (i6) rfl trivial rfl) rfl ?_
  refine seq_run0 (stp_dat (stp_build [(0, [_]), (1, [_]), (2, [_]), (3, [_]), (5, _), (8, _)] tyZ54 tyP54 rfl ⟨rfl, .inl ⟨_, rfl, rfl, rfl⟩, rfl, rfl, .inl ⟨_, rfl, rfl, rfl⟩, rfl, rfl, .inl ⟨_, rfl, rfl, rfl⟩, rfl, rfl, .inl ⟨_, rfl, rfl, rfl⟩, rfl, rfl, .inr rfl, rfl, rfl, .inr rfl, rfl, trivial⟩) (show _ = vagg ([vlst (xs.map instE), vint x, vint y, vint z, vint 0] ++ budV b ++ otlV o) from rfl)) ?_
  refine seq_run2 (stp_alloc 5 tyZ54 rfl) rfl ?_
  first | refine seq_run2 (stp_storeW tyS54 rfl rfl rfl rfl) rfl ?_ | refine seq_run2 (stp_storeA tyS54 rfl rfl rfl rfl) rfl ?_
  refine awp_seq ?_
  refine awp_draw mixed hN rfl rfl ?_
  first | refine seq_run0 (stp_fldP tyF54_3 rfl) ?_ | refine seq_run0 (stp_fldE tyF54_3 rfl) ?_ | refine seq_run0 (stp_fldR tyF54_3 rfl) ?_
  first | refine seq_run1 (stp_load1 tyS3 rfl rfl) rfl ?_ | refine seq_run0 (stp_loadE1 tyS3 rfl (by first | assumption | rfl) rfl) ?_ | refine seq_run1 (stp_loadR1 tyS3 rfl (by first | rfl | omega | simp) (by first | assumption | exact List.getElem?_set_self (by simp; omega)) rfl) rfl ?_
  first | refine seq_run0 (stp_move (.dat _) rfl) ?_ | refine seq_run0 (stp_move (.ptr _ _) rfl) ?_ | refine seq_run0 (stp_move (.row _ _) rfl) ?_ | refine seq_run0 (stp_move (.rptr _ _ _ _ _) rfl) ?_ | refine seq_run0 (stp_move (.mp _) rfl) ?_
  refine seq_run0 (stp_lit [[_], [_], [_]] tyL22 ⟨rfl, .inl ⟨_, rfl, rfl, rfl⟩, rfl, rfl, .inl ⟨_, rfl, rfl, rfl⟩, rfl, rfl, .inl ⟨_, rfl, rfl, rfl⟩, rfl, trivial⟩ rfl rfl) ?_
  refine seq_run2 (stp_imp (i7) rfl ⟨.inl rfl, trivial⟩ rfl) rfl ?_
  refine seq_run0 (stp_mul rfl rfl (by omega)) ?_
  first | refine seq_run0 (stp_fldP tyF54_4 rfl) ?_ | refine seq_run0 (stp_fldE tyF54_4 rfl) ?_ | refine seq_run0 (stp_fldR tyF54_4 rfl) ?_
  first | refine seq_run2 (stp_store1 tyS3 rfl rfl rfl rfl) rfl ?_ | refine seq_run2 (stp_storeS tyS3 rfl rfl rfl rfl) rfl ?_ | refine seq_run2 (stp_storeR tyS3 rfl rfl rfl (by first | rfl | omega | simp) (by first | assumption | exact List.getElem?_set_self (by simp; omega)) rfl) rfl ?_
  refine ⟨rfl, ?_⟩
  refine awp_seq ?_
  refine awp_plain hN rfl ?_
  first | refine seq_run1 (stp_loadA tyS54 rfl rfl rfl) rfl ?_ | refine seq_run0 (stp_loadEA tyS54 rfl (by first | assumption | rfl) rfl) ?_ | refine seq_run1 (stp_loadRA tyS54 rfl (by first | rfl | omega | simp) (by first | assumption | exact List.getElem?_set_self (by simp; omega)) rfl) rfl ?_ | refine seq_run0 (stp_loadEP tyS54 rfl (by first | assumption | rfl) rfl) ?_
  first | refine seq_run2 (stp_storeW tyS54 rfl rfl rfl rfl) rfl ?_ | refine seq_run2 (stp_storeA tyS54 rfl rfl rfl rfl) rfl ?_
  refine awp_ret ?_
  exact ⟨trivial, ⟨⟨_, _, _, stpV ⟨xs, x, y, z, z * m, b, o⟩, rfl, rfl, rfl, rfl, tyS54⟩, trivial⟩, rfl⟩
theorem w_setup_k {L : List Int} {a b1 a' : Int} (s : Stp5)  (i1 : GI L 86 [] (vagg (stpV s)) a b1) (i2 : GI L 15 [vint 10] (vbool false) b1 a')  : Imp Try.prog 23 25 (St L a) [] (resOf [vagg (stpV s)]) (St L a') := by
  refine imp_of (us := [vagg (stpV s)]) (cs' := (St L a')) (by kernel_rfl) Try.func23 rfl rfl rfl rfl fun X bl hN => ?_
  refine awp_seq ?_
  refine awp_plain hN rfl ?_
  refine seq_run2 (stp_alloc 1 tyZ54 rfl) rfl ?_
  refine awp_seq ?_
  refine awp_plain hN rfl ?_
  first | refine seq_run0 (stp_move (.dat _) rfl) ?_ | refine seq_run0 (stp_move (.ptr _ _) rfl) ?_ | refine seq_run0 (stp_move (.row _ _) rfl) ?_ | refine seq_run0 (stp_move (.rptr _ _ _ _ _) rfl) ?_ | refine seq_run0 (stp_move (.mp _) rfl) ?_
  refine seq_run2 (stp_imp (i1) rfl trivial rfl) rfl ?_
  refine seq_run2 (stp_alloc 2 tyZ54 rfl) rfl ?_
  first | refine seq_run2 (stp_storeW tyS54 rfl rfl rfl rfl) rfl ?_ | refine seq_run2 (stp_storeA tyS54 rfl rfl rfl rfl) rfl ?_
  refine awp_seq ?_
  refine awp_seq ?_
  refine awp_plain hN rfl ?_
  first | refine seq_run0 (stp_move (.dat _) rfl) ?_ | refine seq_run0 (stp_move (.ptr _ _) rfl) ?_ | refine seq_run0 (stp_move (.row _ _) rfl) ?_ | refine seq_run0 (stp_move (.rptr _ _ _ _ _) rfl) ?_ | refine seq_run0 (stp_move (.mp _) rfl) ?_
  refine seq_run2 (stp_imp (i2) rfl ⟨.inl rfl, trivial⟩ rfl) rfl ?_
  refine awp_cond _ rfl (fun h1 => (by exfalso; simp at h1)) (fun h1 => ?_)
  try simp at h1
  refine awp_skip ?_
  refine awp_seq ?_
  refine awp_plain hN rfl ?_
  first | refine seq_run1 (stp_loadA tyS54 rfl rfl rfl) rfl ?_ | refine seq_run0 (stp_loadEA tyS54 rfl (by first | assumption | rfl) rfl) ?_ | refine seq_run1 (stp_loadRA tyS54 rfl (by first | rfl | omega | simp) (by first | assumption | exact List.getElem?_set_self (by simp; omega)) rfl) rfl ?_ | refine seq_run0 (stp_loadEP tyS54 rfl (by first | assumption | rfl) rfl) ?_
  first | refine seq_run2 (stp_storeW tyS54 rfl rfl rfl rfl) rfl ?_ | refine seq_run2 (stp_storeA tyS54 rfl rfl rfl rfl) rfl ?_
  refine awp_ret ?_
  exact ⟨trivial, ⟨⟨_, _, _, stpV s, rfl, rfl, rfl, rfl, tyS54⟩, trivial⟩, rfl⟩
theorem w_setup_0 {L : List Int} {a b1 b2 b3 a' : Int} (s : Stp5) (xs : List Inst) (i1 : GI L 86 [] (vagg (stpV s)) a b1) (i2 : GI L 15 [vint 10] (vbool true) b1 b2) (i3 : GI L 16 [vint 4] (vint 0) b2 b3) (i4 : GI L 33 [] (vlst (xs.map instE)) b3 a')  : Imp Try.prog 23 25 (St L a) [] (resOf [vagg (stpV ⟨xs, s.tr, s.ti, s.wa, s.mw, s.bu, s.ot⟩)]) (St L a') := by
  refine imp_of (us := [vagg (stpV ⟨xs, s.tr, s.ti, s.wa, s.mw, s.bu, s.ot⟩)]) (cs' := (St L a')) (by kernel_rfl) Try.func23 rfl rfl rfl rfl fun X bl hN => ?_
  refine awp_seq ?_
  refine awp_plain hN rfl ?_
  refine seq_run2 (stp_alloc 1 tyZ54 rfl) rfl ?_
  refine awp_seq ?_
  refine awp_plain hN rfl ?_
  first | refine seq_run0 (stp_move (.dat _) rfl) ?_ | refine seq_run0 (stp_move (.ptr _ _) rfl) ?_ | refine seq_run0 (stp_move (.row _ _) rfl) ?_ | refine seq_run0 (stp_move (.rptr _ _ _ _ _) rfl) ?_ | refine seq_run0 (stp_move (.mp _) rfl) ?_
  refine seq_run2 (stp_imp (i1) rfl trivial rfl) rfl ?_
  refine seq_run2 (stp_alloc 2 tyZ54 rfl) rfl ?_
  first | refine seq_run2 (stp_storeW tyS54 rfl rfl rfl rfl) rfl ?_ | refine seq_run2 (stp_storeA tyS54 rfl rfl rfl rfl) rfl ?_
  refine awp_seq ?_
  refine awp_seq ?_
  refine awp_plain hN rfl ?_
  first | refine seq_run0 (stp_move (.dat _) rfl) ?_ | refine seq_run0 (stp_move (.ptr _ _) rfl) ?_ | refine seq_run0 (stp_move (.row _ _) rfl) ?_ | refine seq_run0 (stp_move (.rptr _ _ _ _ _) rfl) ?_ | refine seq_run0 (stp_move (.mp _) rfl) ?_
  refine seq_run2 (stp_imp (i2) rfl ⟨.inl rfl, trivial⟩ rfl) rfl ?_
  refine awp_cond _ rfl (fun h1 => ?_) (fun h1 => (by exfalso; simp at h1))
  try simp at h1
  refine awp_seq ?_
  refine awp_plain hN rfl ?_
  first | refine seq_run0 (stp_move (.dat _) rfl) ?_ | refine seq_run0 (stp_move (.ptr _ _) rfl) ?_ | refine seq_run0 (stp_move (.row _ _) rfl) ?_ | refine seq_run0 (stp_move (.rptr _ _ _ _ _) rfl) ?_ | refine seq_run0 (stp_move (.mp _) rfl) ?_
  refine seq_run2 (stp_imp (i3) rfl ⟨.inl rfl, trivial⟩ rfl) rfl ?_
  refine awp_block ?_
  refine awp_seq ?_
  refine awp_plain hN rfl ?_
  refine seq_run0 (stp_eql rfl rfl) ?_
  first | refine seq_run0 (stp_assign (.dat _) rfl) ?_ | refine seq_run0 (stp_assign (.ptr _ _) rfl) ?_ | refine seq_run0 (stp_assign (.row _ _) rfl) ?_ | refine seq_run0 (stp_assign (.rptr _ _ _ _ _) rfl) ?_ | refine seq_run0 (stp_assign (.mp _) rfl) ?_
  refine awp_cond _ rfl (fun h2 => ?_) (fun h2 => (by exfalso; simp at h2))
  try simp at h2
  refine awp_plain hN rfl ?_
  first | refine seq_run0 (stp_move (.dat _) rfl) ?_ | refine seq_run0 (stp_move (.ptr _ _) rfl) ?_ | refine seq_run0 (stp_move (.row _ _) rfl) ?_ | refine seq_run0 (stp_move (.rptr _ _ _ _ _) rfl) ?_ | refine seq_run0 (stp_move (.mp _) rfl) ?_
  refine seq_run2 (stp_imp (i4) rfl trivial rfl) rfl ?_
  first | refine seq_run0 (stp_fldP tyF54_0 rfl) ?_ | refine seq_run0 (stp_fldE tyF54_0 rfl) ?_ | refine seq_run0 (stp_fldR tyF54_0 rfl) ?_
  first | refine seq_run2 (stp_store1 tyS48 rfl rfl rfl rfl) rfl ?_ | refine seq_run2 (stp_storeS tyS48 rfl rfl rfl rfl) rfl ?_ | refine seq_run2 (stp_storeR tyS48 rfl rfl rfl (by first | rfl | omega | simp) (by first | assumption | exact List.getElem?_set_self (by simp; omega)) rfl) rfl ?_
  refine awp_seq ?_
  refine awp_plain hN rfl ?_
  first | refine seq_run1 (stp_loadA tyS54 rfl rfl rfl) rfl ?_ | refine seq_run0 (stp_loadEA tyS54 rfl (by first | assumption | rfl) rfl) ?_ | refine seq_run1 (stp_loadRA tyS54 rfl (by first | rfl | omega | simp) (by first | assumption | exact List.getElem?_set_self (by simp; omega)) rfl) rfl ?_ | refine seq_run0 (stp_loadEP tyS54 rfl (by first | assumption | rfl) rfl) ?_
  first | refine seq_run2 (stp_storeW tyS54 rfl rfl rfl rfl) rfl ?_ | refine seq_run2 (stp_storeA tyS54 rfl rfl rfl rfl) rfl ?_
  refine awp_ret ?_
  exact ⟨trivial, ⟨⟨_, _, _, stpV ⟨xs, s.tr, s.ti, s.wa, s.mw, s.bu, s.ot⟩, rfl, rfl, rfl, rfl, tyS54⟩, trivial⟩, rfl⟩
theorem w_setup_1 {L : List Int} {a b1 b2 b3 b4 a' : Int} (s : Stp5) (x y : Int) (i1 : GI L 86 [] (vagg (stpV s)) a b1) (i2 : GI L 15 [vint 10] (vbool true) b1 b2) (i3 : GI L 16 [vint 4] (vint 1) b2 b3) (i4 : GI L 55 [vint 1, vint 5] (vint x) b3 b4) (i5 : GI L 55 [vint 1, vint 3600000] (vint y) b4 a')  : Imp Try.prog 23 25 (St L a) [] (resOf [vagg (stpV ⟨s.xs, x, y, s.wa, s.mw, s.bu, s.ot⟩)]) (St L a') := by
  refine imp_of (us := [vagg (stpV ⟨s.xs, x, y, s.wa, s.mw, s.bu, s.ot⟩)]) (cs' := (St L a')) (by kernel_rfl) Try.func23 rfl rfl rfl rfl fun X bl hN => ?_
  refine awp_seq ?_
  refine awp_plain hN rfl ?_
  refine seq_run2 (stp_alloc 1 tyZ54 rfl) rfl ?_
  refine awp_seq ?_
  refine awp_plain hN rfl ?_
  first | refine seq_run0 (stp_move (.dat _) rfl) ?_ | refine seq_run0 (stp_move (.ptr _ _) rfl) ?_ | refine seq_run0 (stp_move (.row _ _) rfl) ?_ | refine seq_run0 (stp_move (.rptr _ _ _ _ _) rfl) ?_ | refine seq_run0 (stp_move (.mp _) rfl) ?_
  refine seq_run2 (stp_imp (i1) rfl trivial rfl) rfl ?_
  refine seq_run2 (stp_alloc 2 tyZ54 rfl) rfl ?_
  first | refine seq_run2 (stp_storeW tyS54 rfl rfl rfl rfl) rfl ?_ | refine seq_run2 (stp_storeA tyS54 rfl rfl rfl rfl) rfl ?_
  refine awp_seq ?_
  refine awp_seq ?_
  refine awp_plain hN rfl ?_
  first | refine seq_run0 (stp_move (.dat _) rfl) ?_ | refine seq_run0 (stp_move (.ptr _ _) rfl) ?_ | refine seq_run0 (stp_move (.row _ _) rfl) ?_ | refine seq_run0 (stp_move (.rptr _ _ _ _ _) rfl) ?_ | refine seq_run0 (stp_move (.mp _) rfl) ?_
  refine seq_run2 (stp_imp (i2) rfl ⟨.inl rfl, trivial⟩ rfl) rfl ?_
  refine awp_cond _ rfl (fun h1 => ?_) (fun h1 => (by exfalso; simp at h1))
  try simp at h1
  refine awp_seq ?_
  refine awp_plain hN rfl ?_
  first | refine seq_run0 (stp_move (.dat _) rfl) ?_ | refine seq_run0 (stp_move (.ptr _ _) rfl) ?_ | refine seq_run0 (stp_move (.row _ _) rfl) ?_ | refine seq_run0 (stp_move (.rptr _ _ _ _ _) rfl) ?_ | refine seq_run0 (stp_move (.mp _) rfl) ?_
  refine seq_run2 (stp_imp (i3) rfl ⟨.inl rfl, trivial⟩ rfl) rfl ?_
  refine awp_block ?_
  refine awp_seq ?_
  refine awp_plain hN rfl ?_
  refine seq_run0 (stp_eql rfl rfl) ?_
  first | refine seq_run0 (stp_assign (.dat _) rfl) ?_ | refine seq_run0 (stp_assign (.ptr _ _) rfl) ?_ | refine seq_run0 (stp_assign (.row _ _) rfl) ?_ | refine seq_run0 (stp_assign (.rptr _ _ _ _ _) rfl) ?_ | refine seq_run0 (stp_assign (.mp _) rfl) ?_
  refine awp_cond _ rfl (fun h2 => (by exfalso; simp at h2)) (fun h2 => ?_)
  try simp at h2
  refine awp_seq ?_
  refine awp_plain hN rfl ?_
  refine seq_run0 (stp_eql rfl rfl) ?_
  first | refine seq_run0 (stp_assign (.dat _) rfl) ?_ | refine seq_run0 (stp_assign (.ptr _ _) rfl) ?_ | refine seq_run0 (stp_assign (.row _ _) rfl) ?_ | refine seq_run0 (stp_assign (.rptr _ _ _ _ _) rfl) ?_ | refine seq_run0 (stp_assign (.mp _) rfl) ?_
  refine awp_cond _ rfl (fun h3 => ?_) (fun h3 => (by exfalso; simp at h3))
  try simp at h3
  refine awp_plain hN rfl ?_
  first | refine seq_run0 (stp_move (.dat _) rfl) ?_ | refine seq_run0 (stp_move (.ptr _ _) rfl) ?_ | refine seq_run0 (stp_move (.row _ _) rfl) ?_ | refine seq_run0 (stp_move (.rptr _ _ _ _ _) rfl) ?_ | refine seq_run0 (stp_move (.mp _) rfl) ?_
  refine seq_run2 (stp_imp (i4) rfl ⟨.inl rfl, .inl rfl, trivial⟩ rfl) rfl ?_
  first | refine seq_run0 (stp_move (.dat _) rfl) ?_ | refine seq_run0 (stp_move (.ptr _ _) rfl) ?_ | refine seq_run0 (stp_move (.row _ _) rfl) ?_ | refine seq_run0 (stp_move (.rptr _ _ _ _ _) rfl) ?_ | refine seq_run0 (stp_move (.mp _) rfl) ?_
  refine seq_run2 (stp_imp (i5) rfl ⟨.inl rfl, .inl rfl, trivial⟩ rfl) rfl ?_
  first | refine seq_run0 (stp_fldP tyF54_1 rfl) ?_ | refine seq_run0 (stp_fldE tyF54_1 rfl) ?_ | refine seq_run0 (stp_fldR tyF54_1 rfl) ?_
  first | refine seq_run2 (stp_store1 tyS3 rfl rfl rfl rfl) rfl ?_ | refine seq_run2 (stp_storeS tyS3 rfl rfl rfl rfl) rfl ?_ | refine seq_run2 (stp_storeR tyS3 rfl rfl rfl (by first | rfl | omega | simp) (by first | assumption | exact List.getElem?_set_self (by simp; omega)) rfl) rfl ?_
  first | refine seq_run0 (stp_fldP tyF54_2 rfl) ?_ | refine seq_run0 (stp_fldE tyF54_2 rfl) ?_ | refine seq_run0 (stp_fldR tyF54_2 rfl) ?_
  first | refine seq_run2 (stp_store1 tyS3 rfl rfl rfl rfl) rfl ?_ | refine seq_run2 (stp_storeS tyS3 rfl rfl rfl rfl) rfl ?_ | refine seq_run2 (stp_storeR tyS3 rfl rfl rfl (by first | rfl | omega | simp) (by first | assumption | exact List.getElem?_set_self (by simp; omega)) rfl) rfl ?_
  refine awp_seq ?_
  refine awp_plain hN rfl ?_
  first | refine seq_run1 (stp_loadA tyS54 rfl rfl rfl) rfl ?_ | refine seq_run0 (stp_loadEA tyS54 rfl (by first | assumption | rfl) rfl) ?_ | refine seq_run1 (stp_loadRA tyS54 rfl (by first | rfl | omega | simp) (by first | assumption | exact List.getElem?_set_self (by simp; omega)) rfl) rfl ?_ | refine seq_run0 (stp_loadEP tyS54 rfl (by first | assumption | rfl) rfl) ?_
  first | refine seq_run2 (stp_storeW tyS54 rfl rfl rfl rfl) rfl ?_ | refine seq_run2 (stp_storeA tyS54 rfl rfl rfl rfl) rfl ?_
  refine awp_ret ?_
  exact ⟨trivial, ⟨⟨_, _, _, stpV ⟨s.xs, x, y, s.wa, s.mw, s.bu, s.ot⟩, rfl, rfl, rfl, rfl, tyS54⟩, trivial⟩, rfl⟩
theorem w_setup_2 {L : List Int} {a b1 b2 b3 b4 a' : Int} (s : Stp5) (x y : Int) (i1 : GI L 86 [] (vagg (stpV s)) a b1) (i2 : GI L 15 [vint 10] (vbool true) b1 b2) (i3 : GI L 16 [vint 4] (vint 2) b2 b3) (i4 : GI L 55 [vint 0, vint 10] (vint x) b3 b4) (i5 : GI L 55 [vint 0, vint 3600000] (vint y) b4 a')  : Imp Try.prog 23 25 (St L a) [] (resOf [vagg (stpV ⟨s.xs, s.tr, s.ti, x, y, s.bu, s.ot⟩)]) (St L a') := by
  refine imp_of (us := [vagg (stpV ⟨s.xs, s.tr, s.ti, x, y, s.bu, s.ot⟩)]) (cs' := (St L a')) (by kernel_rfl) Try.func23 rfl rfl rfl rfl fun X bl hN => ?_
  refine awp_seq ?_
  refine awp_plain hN rfl ?_
  refine seq_run2 (stp_alloc 1 tyZ54 rfl) rfl ?_
  refine awp_seq ?_
  refine awp_plain hN rfl ?_
  first | refine seq_run0 (stp_move (.dat _) rfl) ?_ | refine seq_run0 (stp_move (.ptr _ _) rfl) ?_ | refine seq_run0 (stp_move (.row _ _) rfl) ?_ | refine seq_run0 (stp_move (.rptr _ _ _ _ _) rfl) ?_ | refine seq_run0 (stp_move (.mp _) rfl) ?_
  refine seq_run2 (stp_imp (i1) rfl trivial rfl) rfl ?_
  refine seq_run2 (stp_alloc 2 tyZ54 rfl) rfl ?_
  first | refine seq_run2 (stp_storeW tyS54 rfl rfl rfl rfl) rfl ?_ | refine seq_run2 (stp_storeA tyS54 rfl rfl rfl rfl) rfl ?_
  refine awp_seq ?_
  refine awp_seq ?_
  refine awp_plain hN rfl ?_
  first | refine seq_run0 (stp_move (.dat _) rfl) ?_ | refine seq_run0 (stp_move (.ptr _ _) rfl) ?_ | refine seq_run0 (stp_move (.row _ _) rfl) ?_ | refine seq_run0 (stp_move (.rptr _ _ _ _ _) rfl) ?_ | refine seq_run0 (stp_move (.mp _) rfl) ?_
  refine seq_run2 (stp_imp (i2) rfl ⟨.inl rfl, trivial⟩ rfl) rfl ?_
  refine awp_cond _ rfl (fun h1 => ?_) (fun h1 => (by exfalso; simp at h1))
  try simp at h1
  refine awp_seq ?_
  refine awp_plain hN rfl ?_
  first | refine seq_run0 (stp_move (.dat _) rfl) ?_ | refine seq_run0 (stp_move (.ptr _ _) rfl) ?_ | refine seq_run0 (stp_move (.row _ _) rfl) ?_ | refine seq_run0 (stp_move (.rptr _ _ _ _ _) rfl) ?_ | refine seq_run0 (stp_move (.mp _) rfl) ?_
  refine seq_run2 (stp_imp (i3) rfl ⟨.inl rfl, trivial⟩ rfl) rfl ?_
  refine awp_block ?_
  refine awp_seq ?_
  refine awp_plain hN rfl ?_
  refine seq_run0 (stp_eql rfl rfl) ?_
  first | refine seq_run0 (stp_assign (.dat _) rfl) ?_ | refine seq_run0 (stp_assign (.ptr _ _) rfl) ?_ | refine seq_run0 (stp_assign (.row _ _) rfl) ?_ | refine seq_run0 (stp_assign (.rptr _ _ _ _ _) rfl) ?_ | refine seq_run0 (stp_assign (.mp _) rfl) ?_
  refine awp_cond _ rfl (fun h2 => (by exfalso; simp at h2)) (fun h2 => ?_)
  try simp at h2
  refine awp_seq ?_
  refine awp_plain hN rfl ?_
  refine seq_run0 (stp_eql rfl rfl) ?_
  first | refine seq_run0 (stp_assign (.dat _) rfl) ?_ | refine seq_run0 (stp_assign (.ptr _ _) rfl) ?_ | refine seq_run0 (stp_assign (.row _ _) rfl) ?_ | refine seq_run0 (stp_assign (.rptr _ _ _ _ _) rfl) ?_ | refine seq_run0 (stp_assign (.mp _) rfl) ?_
  refine awp_cond _ rfl (fun h3 => (by exfalso; simp at h3)) (fun h3 => ?_)
  try simp at h3
  refine awp_seq ?_
  refine awp_plain hN rfl ?_
  refine seq_run0 (stp_eql rfl rfl) ?_
  first | refine seq_run0 (stp_assign (.dat _) rfl) ?_ | refine seq_run0 (stp_assign (.ptr _ _) rfl) ?_ | refine seq_run0 (stp_assign (.row _ _) rfl) ?_ | refine seq_run0 (stp_assign (.rptr _ _ _ _ _) rfl) ?_ | refine seq_run0 (stp_assign (.mp _) rfl) ?_
  refine awp_cond _ rfl (fun h4 => ?_) (fun h4 => (by exfalso; simp at h4))
  try simp at h4
  refine awp_plain hN rfl ?_
  first | refine seq_run0 (stp_move (.dat _) rfl) ?_ | refine seq_run0 (stp_move (.ptr _ _) rfl) ?_ | refine seq_run0 (stp_move (.row _ _) rfl) ?_ | refine seq_run0 (stp_move (.rptr _ _ _ _ _) rfl) ?_ | refine seq_run0 (stp_move (.mp _) rfl) ?_
  refine seq_run2 (stp_imp (i4) rfl ⟨.inl rfl, .inl rfl, trivial⟩ rfl) rfl ?_
  first | refine seq_run0 (stp_move (.dat _) rfl) ?_ | refine seq_run0 (stp_move (.ptr _ _) rfl) ?_ | refine seq_run0 (stp_move (.row _ _) rfl) ?_ | refine seq_run0 (stp_move (.rptr _ _ _ _ _) rfl) ?_ | refine seq_run0 (stp_move (.mp _) rfl) ?_
  refine seq_run2 (stp_imp (i5) rfl ⟨.inl rfl, .inl rfl, trivial⟩ rfl) rfl ?_
  first | refine seq_run0 (stp_fldP tyF54_3 rfl) ?_ | refine seq_run0 (stp_fldE tyF54_3 rfl) ?_ | refine seq_run0 (stp_fldR tyF54_3 rfl) ?_
  first | refine seq_run2 (stp_store1 tyS3 rfl rfl rfl rfl) rfl ?_ | refine seq_run2 (stp_storeS tyS3 rfl rfl rfl rfl) rfl ?_ | refine seq_run2 (stp_storeR tyS3 rfl rfl rfl (by first | rfl | omega | simp) (by first | assumption | exact List.getElem?_set_self (by simp; omega)) rfl) rfl ?_
  first | refine seq_run0 (stp_fldP tyF54_4 rfl) ?_ | refine seq_run0 (stp_fldE tyF54_4 rfl) ?_ | refine seq_run0 (stp_fldR tyF54_4 rfl) ?_
  first | refine seq_run2 (stp_store1 tyS3 rfl rfl rfl rfl) rfl ?_ | refine seq_run2 (stp_storeS tyS3 rfl rfl rfl rfl) rfl ?_ | refine seq_run2 (stp_storeR tyS3 rfl rfl rfl (by first | rfl | omega | simp) (by first | assumption | exact List.getElem?_set_self (by simp; omega)) rfl) rfl ?_
  refine awp_seq ?_
  refine awp_plain hN rfl ?_
  first | refine seq_run1 (stp_loadA tyS54 rfl rfl rfl) rfl ?_ | refine seq_run0 (stp_loadEA tyS54 rfl (by first | assumption | rfl) rfl) ?_ | refine seq_run1 (stp_loadRA tyS54 rfl (by first | rfl | omega | simp) (by first | assumption | exact List.getElem?_set_self (by simp; omega)) rfl) rfl ?_ | refine seq_run0 (stp_loadEP tyS54 rfl (by first | assumption | rfl) rfl) ?_
  first | refine seq_run2 (stp_storeW tyS54 rfl rfl rfl rfl) rfl ?_ | refine seq_run2 (stp_storeA tyS54 rfl rfl rfl rfl) rfl ?_
  refine awp_ret ?_
  exact ⟨trivial, ⟨⟨_, _, _, stpV ⟨s.xs, s.tr, s.ti, x, y, s.bu, s.ot⟩, rfl, rfl, rfl, rfl, tyS54⟩, trivial⟩, rfl⟩
theorem w_setup_3 {L : List Int} {a b1 b2 b3 b4 a' : Int} (s : Stp5) (b : Bud) (o : Otl) (i1 : GI L 86 [] (vagg (stpV s)) a b1) (i2 : GI L 15 [vint 10] (vbool true) b1 b2) (i3 : GI L 16 [vint 4] (vint 3) b2 b3) (i4 : GI L 56 [] (vagg (budV b)) b3 b4) (i5 : GI L 48 [] (vagg (otlV o)) b4 a')  : Imp Try.prog 23 25 (St L a) [] (resOf [vagg (stpV ⟨s.xs, s.tr, s.ti, s.wa, s.mw, b, o⟩)]) (St L a') := by
  refine imp_of (us := [vagg (stpV ⟨s.xs, s.tr, s.ti, s.wa, s.mw, b, o⟩)]) (cs' := (St L a')) (by kernel_rfl) Try.func23 rfl rfl rfl rfl fun X bl hN => ?_
  refine awp_seq ?_
  refine awp_plain hN rfl ?_
  refine seq_run2 (stp_alloc 1 tyZ54 rfl) rfl ?_
  refine awp_seq ?_
  refine awp_plain hN rfl ?_
  first | refine seq_run0 (stp_move (.dat _) rfl) ?_ | refine seq_run0 (stp_move (.ptr _ _) rfl) ?_ | refine seq_run0 (stp_move (.row _ _) rfl) ?_ | refine seq_run0 (stp_move (.rptr _ _ _ _ _) rfl) ?_ | refine seq_run0 (stp_move (.mp _) rfl) ?_
  refine seq_run2 (stp_imp (i1) rfl trivial rfl) rfl ?_
  refine seq_run2 (stp_alloc 2 tyZ54 rfl) rfl ?_
  first | refine seq_run2 (stp_storeW tyS54 rfl rfl rfl rfl) rfl ?_ | refine seq_run2 (stp_storeA tyS54 rfl rfl rfl rfl) rfl ?_
  refine awp_seq ?_
  refine awp_seq ?_
  refine awp_plain hN rfl ?_
  first | refine seq_run0 (stp_move (.dat _) rfl) ?_ | refine seq_run0 (stp_move (.ptr _ _) rfl) ?_ | refine seq_run0 (stp_move (.row _ _) rfl) ?_ | refine seq_run0 (stp_move (.rptr _ _ _ _ _) rfl) ?_ | refine seq_run0 (stp_move (.mp _) rfl) ?_
  refine seq_run2 (stp_imp (i2) rfl ⟨.inl rfl, trivial⟩ rfl) rfl ?_
  refine awp_cond _ rfl (fun h1 => ?_) (fun h1 => (by exfalso; simp at h1))
  try simp at h1
  refine awp_seq ?_
  refine awp_plain hN rfl ?_
  first | refine seq_run0 (stp_move (.dat _) rfl) ?_ | refine seq_run0 (stp_move (.ptr _ _) rfl) ?_ | refine seq_run0 (stp_move (.row _ _) rfl) ?_ | refine seq_run0 (stp_move (.rptr _ _ _ _ _) rfl) ?_ | refine seq_run0 (stp_move (.mp _) rfl) ?_
  refine seq_run2 (stp_imp (i3) rfl ⟨.inl rfl, trivial⟩ rfl) rfl ?_
  refine awp_block ?_
  refine awp_seq ?_
  refine awp_plain hN rfl ?_
  refine seq_run0 (stp_eql rfl rfl) ?_
  first | refine seq_run0 (stp_assign (.dat _) rfl) ?_ | refine seq_run0 (stp_assign (.ptr _ _) rfl) ?_ | refine seq_run0 (stp_assign (.row _ _) rfl) ?_ | refine seq_run0 (stp_assign (.rptr _ _ _ _ _) rfl) ?_ | refine seq_run0 (stp_assign (.mp _) rfl) ?_
  refine awp_cond _ rfl (fun h2 => (by exfalso; simp at h2)) (fun h2 => ?_)
  try simp at h2
  refine awp_seq ?_
  refine awp_plain hN rfl ?_
  refine seq_run0 (stp_eql rfl rfl) ?_
  first | refine seq_run0 (stp_assign (.dat _) rfl) ?_ | refine seq_run0 (stp_assign (.ptr _ _) rfl) ?_ | refine seq_run0 (stp_assign (.row _ _) rfl) ?_ | refine seq_run0 (stp_assign (.rptr _ _ _ _ _) rfl) ?_ | refine seq_run0 (stp_assign (.mp _) rfl) ?_
  refine awp_cond _ rfl (fun h3 => (by exfalso; simp at h3)) (fun h3 => ?_)
  try simp at h3
  refine awp_seq ?_
  refine awp_plain hN rfl ?_
  refine seq_run0 (stp_eql rfl rfl) ?_
  first | refine seq_run0 (stp_assign (.dat _) rfl) ?_ | refine seq_run0 (stp_assign (.ptr _ _) rfl) ?_ | refine seq_run0 (stp_assign (.row _ _) rfl) ?_ | refine seq_run0 (stp_assign (.rptr _ _ _ _ _) rfl) ?_ | refine seq_run0 (stp_assign (.mp _) rfl) ?_
  refine awp_cond _ rfl (fun h4 => (by exfalso; simp at h4)) (fun h4 => ?_)
  try simp at h4
  refine awp_plain hN rfl ?_
  first | refine seq_run0 (stp_move (.dat _) rfl) ?_ | refine seq_run0 (stp_move (.ptr _ _) rfl) ?_ | refine seq_run0 (stp_move (.row _ _) rfl) ?_ | refine seq_run0 (stp_move (.rptr _ _ _ _ _) rfl) ?_ | refine seq_run0 (stp_move (.mp _) rfl) ?_
  refine seq_run2 (stp_imp (i4) rfl trivial rfl) rfl ?_
  first | refine seq_run0 (stp_move (.dat _) rfl) ?_ | refine seq_run0 (stp_move (.ptr _ _) rfl) ?_ | refine seq_run0 (stp_move (.row _ _) rfl) ?_ | refine seq_run0 (stp_move (.rptr _ _ _ _ _) rfl) ?_ | refine seq_run0 (stp_move (.mp _) rfl) ?_
  refine seq_run2 (stp_imp (i5) rfl trivial rfl) rfl ?_
  first | refine seq_run0 (stp_fldP tyF54_5 rfl) ?_ | refine seq_run0 (stp_fldE tyF54_5 rfl) ?_ | refine seq_run0 (stp_fldR tyF54_5 rfl) ?_
  first | refine seq_run2 (stp_storeW tyS50 rfl rfl rfl rfl) rfl ?_ | refine seq_run2 (stp_storeA tyS50 rfl rfl rfl rfl) rfl ?_
  first | refine seq_run0 (stp_fldP tyF54_6 rfl) ?_ | refine seq_run0 (stp_fldE tyF54_6 rfl) ?_ | refine seq_run0 (stp_fldR tyF54_6 rfl) ?_
  first | refine seq_run2 (stp_storeW tyS52 rfl rfl rfl rfl) rfl ?_ | refine seq_run2 (stp_storeA tyS52 rfl rfl rfl rfl) rfl ?_
  refine awp_seq ?_
  refine awp_plain hN rfl ?_
  first | refine seq_run1 (stp_loadA tyS54 rfl rfl rfl) rfl ?_ | refine seq_run0 (stp_loadEA tyS54 rfl (by first | assumption | rfl) rfl) ?_ | refine seq_run1 (stp_loadRA tyS54 rfl (by first | rfl | omega | simp) (by first | assumption | exact List.getElem?_set_self (by simp; omega)) rfl) rfl ?_ | refine seq_run0 (stp_loadEP tyS54 rfl (by first | assumption | rfl) rfl) ?_
  first | refine seq_run2 (stp_storeW tyS54 rfl rfl rfl rfl) rfl ?_ | refine seq_run2 (stp_storeA tyS54 rfl rfl rfl rfl) rfl ?_
  refine awp_ret ?_
  exact ⟨trivial, ⟨⟨_, _, _, stpV ⟨s.xs, s.tr, s.ti, s.wa, s.mw, b, o⟩, rfl, rfl, rfl, rfl, tyS54⟩, trivial⟩, rfl⟩
structure BudOK (b : Bud) : Prop where
  w : -1099511627776 ≤ b.w ∧ b.w ≤ 1099511627776
  l : -1099511627776 ≤ b.l ∧ b.l ≤ 1099511627776
  p : -1099511627776 ≤ b.p ∧ b.p ≤ 1099511627776
structure OtlOK (o : Otl) : Prop where
  f : -1099511627776 ≤ o.f ∧ o.f ≤ 1099511627776
  b : -1099511627776 ≤ o.b ∧ o.b ≤ 1099511627776
  m : -1099511627776 ≤ o.m ∧ o.m ≤ 1099511627776
  s : -1099511627776 ≤ o.s ∧ o.s ≤ 1099511627776
structure StpOK (s : Stp5) : Prop where
  xs : InsOK s.xs
  tr : -1099511627776 ≤ s.tr ∧ s.tr ≤ 1099511627776
  ti : -1099511627776 ≤ s.ti ∧ s.ti ≤ 1099511627776
  wa : -1099511627776 ≤ s.wa ∧ s.wa ≤ 1099511627776
  mw : -1099511627776 ≤ s.mw ∧ s.mw ≤ 1099511627776
  bu : BudOK s.bu
  ot : OtlOK s.ot
theorem g_rightBudget {L : List Int} (hL : ArgL L) {a : Int} (ha0 : 0 ≤ a) (ha1 : a ≤ 999999000) : ∃ b, BudOK b ∧ GI L 108 [] (vagg (budV b)) a (a + 1 + 1 + 1) := by
  obtain ⟨x, q1, i1⟩ := g_pick hL (a := a) [1, 10, 50, 100, 1000] (by omega) (by omega) (by simp) (by simp)
  obtain ⟨y, q2, i2⟩ := g_pick hL (a := a + 1) [0, 1, 2, 5] (by omega) (by omega) (by simp) (by simp)
  obtain ⟨z, q3, i3⟩ := g_pick hL (a := a + 1 + 1) [0, 100, 333, 500, 1000] (by omega) (by omega) (by simp) (by simp)
  simp at q1 q2 q3
  exact ⟨⟨x, y, z⟩, ⟨by simp only; omega, by simp only; omega, by simp only; omega⟩, w_rightBudget x y z i1 i2 i3⟩
theorem g_budget {L : List Int} (hL : ArgL L) {a : Int} (ha0 : 0 ≤ a) (ha1 : a ≤ 999998000) : ∃ b a', BudOK b ∧ a ≤ a' ∧ a' ≤ a + 10 ∧ GI L 56 [] (vagg (budV b)) a a' := by
  obtain ⟨b, hb, i1⟩ := g_rightBudget hL ha0 (by omega)
  obtain ⟨t, i2⟩ := g_flip hL (a := a + 1 + 1 + 1) 15 (by omega) (by omega) (by omega) (by omega)
  cases t with
  | false => exact ⟨b, _, hb, by omega, by omega, w_budget_k b i1 i2⟩
  | true =>
    obtain ⟨x, x1, x2, i3⟩ := g_odd hL (a := a + 1 + 1 + 1 + 1) 1 3600000 (by omega) (by omega) (by omega)
    obtain ⟨y, y1, y2, i4⟩ := g_odd hL (a := a + 1 + 1 + 1 + 1 + 2) 0 300 (by omega) (by omega) (by omega)
    obtain ⟨z, z1, z2, i5⟩ := g_odd hL (a := a + 1 + 1 + 1 + 1 + 2 + 2) 0 1000 (by omega) (by omega) (by omega)
    exact ⟨⟨x, y, z⟩, _, ⟨⟨x1, x2⟩, ⟨y1, y2⟩, ⟨z1, z2⟩⟩, by omega, by omega, w_budget_m b x y z i1 i2 i3 i4 i5⟩
theorem g_rightOutliers {L : List Int} (hL : ArgL L) {a : Int} (ha0 : 0 ≤ a) (ha1 : a ≤ 999999000) : ∃ o, (1 ≤ o.f ∧ o.f ≤ 3 ∧ 1 ≤ o.b ∧ o.b ≤ o.m ∧ o.m ≤ 80 ∧ 0 ≤ o.s ∧ o.s ≤ 1000) ∧ GI L 102 [] (vagg (otlV o)) a (a + 1 + 1 + 1 + 1) := by
  obtain ⟨x, q1, i1⟩ := g_pick hL (a := a) [1, 2, 2, 3] (by omega) (by omega) (by simp) (by simp)
  obtain ⟨y, q2, i2⟩ := g_pick hL (a := a + 1) [1, 5, 10] (by omega) (by omega) (by simp) (by simp)
  obtain ⟨z, q3, i3⟩ := g_pick hL (a := a + 1 + 1) [0, 333, 500, 1000] (by omega) (by omega) (by simp) (by simp)
  obtain ⟨m, q4, i4⟩ := g_pick hL (a := a + 1 + 1 + 1) [1, 2, 3, 8] (by omega) (by omega) (by simp) (by simp)
  simp at q1 q2 q3 q4
  have hym : y ≤ y * m ∧ y * m ≤ 80 := by rcases q2 with rfl | rfl | rfl <;> omega
  exact ⟨⟨x, y, y * m, z⟩, by simp only; omega, w_rightOutliers x y z m (by omega) i1 i2 i3 i4⟩
theorem g_outliers {L : List Int} (hL : ArgL L) {a : Int} (ha0 : 0 ≤ a) (ha1 : a ≤ 999998000) : ∃ o a', OtlOK o ∧ a ≤ a' ∧ a' ≤ a + 20 ∧ GI L 48 [] (vagg (otlV o)) a a' := by
  obtain ⟨o, ho, i1⟩ := g_rightOutliers hL ha0 (by omega)
  obtain ⟨t, i2⟩ := g_flip hL (a := a + 1 + 1 + 1 + 1) 15 (by omega) (by omega) (by omega) (by omega)
  cases t with
  | false => exact ⟨o, _, ⟨by omega, by omega, by omega, by omega⟩, by omega, by omega, w_outliers_k o i1 i2⟩
  | true =>
    obtain ⟨x, x1, x2, i3⟩ := g_odd hL (a := a + 1 + 1 + 1 + 1 + 1) 1 100 (by omega) (by omega) (by omega)
    obtain ⟨y, y1, y2, i4⟩ := g_odd hL (a := a + 1 + 1 + 1 + 1 + 1 + 2) 1 20 (by omega) (by omega) (by omega)
    obtain ⟨z, z1, z2, i5⟩ := g_odd hL (a := a + 1 + 1 + 1 + 1 + 1 + 2 + 2) 1 3600000 (by omega) (by omega) (by omega)
    obtain ⟨q, q1, q2, i6⟩ := g_odd hL (a := a + 1 + 1 + 1 + 1 + 1 + 2 + 2 + 2) 0 1000 (by omega) (by omega) (by omega)
    exact ⟨⟨x, y, z, q⟩, _, ⟨⟨x1, x2⟩, ⟨y1, y2⟩, ⟨z1, z2⟩, ⟨q1, q2⟩⟩, by omega, by omega, w_outliers_m o x y z q i1 i2 i3 i4 i5 i6⟩
theorem g_rightSetup {L : List Int} (hL : ArgL L) {a : Int} (ha0 : 0 ≤ a) (ha1 : a ≤ 999998000) : ∃ s a', StpOK s ∧ a ≤ a' ∧ a' ≤ a + 30 ∧ GI L 86 [] (vagg (stpV s)) a a' := by
  obtain ⟨xs, a1, hok, _, _, h1, h2, iR⟩ := g_rightInstances hL ha0 (by omega)
  obtain ⟨x, q1, i2⟩ := g_pick hL (a := a1) [1, 2, 3, 5] (by omega) (by omega) (by simp) (by simp)
  obtain ⟨y, q2, i3⟩ := g_pick hL (a := a1 + 1) [1, 10, 20, 50] (by omega) (by omega) (by simp) (by simp)
  obtain ⟨z, q3, i4⟩ := g_pick hL (a := a1 + 1 + 1) [0, 0, 5, 10] (by omega) (by omega) (by simp) (by simp)
  obtain ⟨b, hb, i5⟩ := g_rightBudget hL (a := a1 + 1 + 1 + 1) (by omega) (by omega)
  obtain ⟨o, ho, i6⟩ := g_rightOutliers hL (a := a1 + 1 + 1 + 1 + 1 + 1 + 1) (by omega) (by omega)
  obtain ⟨m, q4, i7⟩ := g_pick hL (a := a1 + 1 + 1 + 1 + 1 + 1 + 1 + 1 + 1 + 1 + 1) [1, 2, 4] (by omega) (by omega) (by simp) (by simp)
  simp at q1 q2 q3 q4
  have hzm : z ≤ z * m ∧ z * m ≤ 40 := by rcases q4 with rfl | rfl | rfl <;> omega
  exact ⟨⟨xs, x, y, z, z * m, b, o⟩, _, ⟨hok, by simp only; omega, by simp only; omega, by simp only; omega, by simp only; omega, hb, ⟨by simp only; omega, by simp only; omega, by simp only; omega, by simp only; omega⟩⟩, by omega, by omega, w_rightSetup xs x y z m b o (by omega) (imp_of_impR iR) i2 i3 i4 i5 i6 i7⟩
theorem g_setup {L : List Int} (hL : ArgL L) {a : Int} (ha0 : 0 ≤ a) (ha1 : a ≤ 999990000) : ∃ s a', StpOK s ∧ a ≤ a' ∧ a' ≤ a + 100 ∧ GI L 23 [] (vagg (stpV s)) a a' := by
  obtain ⟨s, a1, hok, h1, h2, i1⟩ := g_rightSetup hL ha0 (by omega)
  obtain ⟨t, i2⟩ := g_flip hL (a := a1) 10 (by omega) (by omega) (by omega) (by omega)
  cases t with
  | false => exact ⟨s, _, hok, by omega, by omega, w_setup_k s i1 i2⟩
  | true =>
    obtain ⟨r, r1, r2, i3⟩ := g_next hL (a := a1 + 1) 4 (by omega) (by omega) (by omega) (by omega)
    have hr : r = 0 ∨ r = 1 ∨ r = 2 ∨ r = 3 := by omega
    rcases hr with rfl | rfl | rfl | rfl
    · obtain ⟨xs, a2, hx, g1, g2, i4⟩ := g_instances hL (a := a1 + 1 + 1) (by omega) (by omega)
      exact ⟨⟨xs, s.tr, s.ti, s.wa, s.mw, s.bu, s.ot⟩, _, ⟨hx, hok.tr, hok.ti, hok.wa, hok.mw, hok.bu, hok.ot⟩, by omega, by omega, w_setup_0 s xs i1 i2 i3 i4⟩
    · obtain ⟨x, x1, x2, i4⟩ := g_odd hL (a := a1 + 1 + 1) 1 5 (by omega) (by omega) (by omega)
      obtain ⟨y, y1, y2, i5⟩ := g_odd hL (a := a1 + 1 + 1 + 2) 1 3600000 (by omega) (by omega) (by omega)
      exact ⟨⟨s.xs, x, y, s.wa, s.mw, s.bu, s.ot⟩, _, ⟨hok.xs, ⟨x1, x2⟩, ⟨y1, y2⟩, hok.wa, hok.mw, hok.bu, hok.ot⟩, by omega, by omega, w_setup_1 s x y i1 i2 i3 i4 i5⟩
    · obtain ⟨x, x1, x2, i4⟩ := g_odd hL (a := a1 + 1 + 1) 0 10 (by omega) (by omega) (by omega)
      obtain ⟨y, y1, y2, i5⟩ := g_odd hL (a := a1 + 1 + 1 + 2) 0 3600000 (by omega) (by omega) (by omega)
      exact ⟨⟨s.xs, s.tr, s.ti, x, y, s.bu, s.ot⟩, _, ⟨hok.xs, hok.tr, hok.ti, ⟨x1, x2⟩, ⟨y1, y2⟩, hok.bu, hok.ot⟩, by omega, by omega, w_setup_2 s x y i1 i2 i3 i4 i5⟩
    · obtain ⟨b, a2, hb, g1, g2, i4⟩ := g_budget hL (a := a1 + 1 + 1) (by omega) (by omega)
      obtain ⟨o, a3, ho, g3, g4, i5⟩ := g_outliers hL (a := a2) (by omega) (by omega)
      exact ⟨⟨s.xs, s.tr, s.ti, s.wa, s.mw, b, o⟩, _, ⟨hok.xs, hok.tr, hok.ti, hok.wa, hok.mw, hb, ho⟩, by omega, by omega, w_setup_3 s b o i1 i2 i3 i4 i5⟩
end Go.Proofs.Ytmcegaabopcmfaa
