/- Instances: Odd and Instances of the stream. -/
import Derived.Test.YtmcegaabopcmfaaGi
namespace Go.Proofs.Ytmcegaabopcmfaa
open Go.RowKit
set_option linter.unusedVariables false
set_option maxRecDepth 20000

theorem w_odd1 {L : List Int} {a m a' : Int} (lo hi r : Int) (hb : -1000000000000 ≤ lo ∧ hi ≤ 1000000000000 ∧ lo ≤ hi) (i1 : GI L 15 [vint 12] (vbool true) a m) (i2 : GI L 14 [vlst (ints [lo - 1, hi + 1, lo, hi, -1099511627776, 1099511627776])] (vint r) m a')  : Imp Try.prog 55 25 (St L a) [vint lo, vint hi] (resOf [vint r]) (St L a') := by
  refine imp_of (us := [vint r]) (cs' := (St L a')) (by kernel_rfl) Try.func55 rfl rfl rfl rfl fun X bl hN => ?_
  refine awp_seq ?_
  refine awp_plain hN rfl ?_
  refine seq_run0 (stp_assign (.dat _) rfl) ?_
  refine awp_seq ?_
  refine awp_seq ?_
  refine awp_plain hN rfl ?_
  first | refine seq_run0 (stp_move (.dat _) rfl) ?_ | refine seq_run0 (stp_move (.ptr _ _) rfl) ?_ | refine seq_run0 (stp_move (.row _ _) rfl) ?_ | refine seq_run0 (stp_move (.rptr _ _ _ _ _) rfl) ?_ | refine seq_run0 (stp_move (.mp _) rfl) ?_
  refine seq_run2 (stp_imp (i1) rfl ⟨.inl rfl, trivial⟩ rfl) rfl ?_
  refine awp_cond _ rfl (fun h1 => ?_) (fun h1 => (by exfalso; simp at h1))
  try simp at h1
  refine awp_seq ?_
  refine awp_plain hN rfl ?_
  first | refine seq_run0 (stp_move (.dat _) rfl) ?_ | refine seq_run0 (stp_move (.ptr _ _) rfl) ?_ | refine seq_run0 (stp_move (.row _ _) rfl) ?_ | refine seq_run0 (stp_move (.rptr _ _ _ _ _) rfl) ?_ | refine seq_run0 (stp_move (.mp _) rfl) ?_
  first | refine seq_run0 (stp_move (.dat _) rfl) ?_ | refine seq_run0 (stp_move (.ptr _ _) rfl) ?_ | refine seq_run0 (stp_move (.row _ _) rfl) ?_ | refine seq_run0 (stp_move (.rptr _ _ _ _ _) rfl) ?_ | refine seq_run0 (stp_move (.mp _) rfl) ?_
  refine seq_run0 (stp_sub rfl rfl (by omega)) ?_
  first | refine seq_run0 (stp_move (.dat _) rfl) ?_ | refine seq_run0 (stp_move (.ptr _ _) rfl) ?_ | refine seq_run0 (stp_move (.row _ _) rfl) ?_ | refine seq_run0 (stp_move (.rptr _ _ _ _ _) rfl) ?_ | refine seq_run0 (stp_move (.mp _) rfl) ?_
  refine seq_run0 (stp_add rfl rfl (by omega)) ?_
  first | refine seq_run0 (stp_move (.dat _) rfl) ?_ | refine seq_run0 (stp_move (.ptr _ _) rfl) ?_ | refine seq_run0 (stp_move (.row _ _) rfl) ?_ | refine seq_run0 (stp_move (.rptr _ _ _ _ _) rfl) ?_ | refine seq_run0 (stp_move (.mp _) rfl) ?_
  first | refine seq_run0 (stp_move (.dat _) rfl) ?_ | refine seq_run0 (stp_move (.ptr _ _) rfl) ?_ | refine seq_run0 (stp_move (.row _ _) rfl) ?_ | refine seq_run0 (stp_move (.rptr _ _ _ _ _) rfl) ?_ | refine seq_run0 (stp_move (.mp _) rfl) ?_
  refine seq_run0 (stp_lit [[_], [_], [_], [_], [_], [_]] tyL22 ⟨rfl, .inl ⟨_, rfl, rfl, rfl⟩, rfl, rfl, .inl ⟨_, rfl, rfl, rfl⟩, rfl, rfl, .inl ⟨_, rfl, rfl, rfl⟩, rfl, rfl, .inl ⟨_, rfl, rfl, rfl⟩, rfl, rfl, .inl ⟨_, rfl, rfl, rfl⟩, rfl, rfl, .inl ⟨_, rfl, rfl, rfl⟩, rfl, trivial⟩ rfl rfl) ?_
  refine seq_run2 (stp_imp (i2) rfl ⟨.inl rfl, trivial⟩ rfl) rfl ?_
  first | refine seq_run0 (stp_assign (.dat _) rfl) ?_ | refine seq_run0 (stp_assign (.ptr _ _) rfl) ?_ | refine seq_run0 (stp_assign (.row _ _) rfl) ?_ | refine seq_run0 (stp_assign (.rptr _ _ _ _ _) rfl) ?_ | refine seq_run0 (stp_assign (.mp _) rfl) ?_
  refine awp_ret ?_
  exact ⟨trivial, ⟨.inl rfl, trivial⟩, rfl⟩
theorem w_odd2 {L : List Int} {a m a' : Int} (lo hi r : Int) (hb : -1000000000000 ≤ lo ∧ hi ≤ 1000000000000 ∧ lo ≤ hi) (i1 : GI L 15 [vint 12] (vbool false) a m) (i2 : GI L 13 [vint lo, vint hi] (vint r) m a')  : Imp Try.prog 55 25 (St L a) [vint lo, vint hi] (resOf [vint r]) (St L a') := by
  refine imp_of (us := [vint r]) (cs' := (St L a')) (by kernel_rfl) Try.func55 rfl rfl rfl rfl fun X bl hN => ?_
  refine awp_seq ?_
  refine awp_plain hN rfl ?_
  refine seq_run0 (stp_assign (.dat _) rfl) ?_
  refine awp_seq ?_
  refine awp_seq ?_
  refine awp_plain hN rfl ?_
  first | refine seq_run0 (stp_move (.dat _) rfl) ?_ | refine seq_run0 (stp_move (.ptr _ _) rfl) ?_ | refine seq_run0 (stp_move (.row _ _) rfl) ?_ | refine seq_run0 (stp_move (.rptr _ _ _ _ _) rfl) ?_ | refine seq_run0 (stp_move (.mp _) rfl) ?_
  refine seq_run2 (stp_imp (i1) rfl ⟨.inl rfl, trivial⟩ rfl) rfl ?_
  refine awp_cond _ rfl (fun h1 => (by exfalso; simp at h1)) (fun h1 => ?_)
  try simp at h1
  refine awp_skip ?_
  refine awp_seq ?_
  refine awp_plain hN rfl ?_
  first | refine seq_run0 (stp_move (.dat _) rfl) ?_ | refine seq_run0 (stp_move (.ptr _ _) rfl) ?_ | refine seq_run0 (stp_move (.row _ _) rfl) ?_ | refine seq_run0 (stp_move (.rptr _ _ _ _ _) rfl) ?_ | refine seq_run0 (stp_move (.mp _) rfl) ?_
  first | refine seq_run0 (stp_move (.dat _) rfl) ?_ | refine seq_run0 (stp_move (.ptr _ _) rfl) ?_ | refine seq_run0 (stp_move (.row _ _) rfl) ?_ | refine seq_run0 (stp_move (.rptr _ _ _ _ _) rfl) ?_ | refine seq_run0 (stp_move (.mp _) rfl) ?_
  first | refine seq_run0 (stp_move (.dat _) rfl) ?_ | refine seq_run0 (stp_move (.ptr _ _) rfl) ?_ | refine seq_run0 (stp_move (.row _ _) rfl) ?_ | refine seq_run0 (stp_move (.rptr _ _ _ _ _) rfl) ?_ | refine seq_run0 (stp_move (.mp _) rfl) ?_
  refine seq_run2 (stp_imp (i2) rfl ⟨.inl rfl, .inl rfl, trivial⟩ rfl) rfl ?_
  first | refine seq_run0 (stp_assign (.dat _) rfl) ?_ | refine seq_run0 (stp_assign (.ptr _ _) rfl) ?_ | refine seq_run0 (stp_assign (.row _ _) rfl) ?_ | refine seq_run0 (stp_assign (.rptr _ _ _ _ _) rfl) ?_ | refine seq_run0 (stp_assign (.mp _) rfl) ?_
  refine awp_ret ?_
  exact ⟨trivial, ⟨.inl rfl, trivial⟩, rfl⟩
theorem g_odd {L : List Int} (hL : ArgL L) {a : Int} (lo hi : Int) (ha0 : 0 ≤ a) (ha1 : a ≤ 999999999) (hb : -1000000000000 ≤ lo ∧ hi ≤ 1000000000000 ∧ lo ≤ hi) : ∃ r, -1099511627776 ≤ r ∧ r ≤ 1099511627776 ∧ GI L 55 [vint lo, vint hi] (vint r) a (a + 2) := by
  obtain ⟨b, i1⟩ := g_flip hL 12 ha0 (by omega) (by omega) (by omega)
  have e2 : a + 1 + 1 = a + 2 := by omega
  cases b with
  | true =>
    obtain ⟨r, q1, i2⟩ := g_pick hL (a := a + 1) [lo - 1, hi + 1, lo, hi, -1099511627776, 1099511627776] (by omega) (by omega) (by simp) (by simp)
    refine ⟨r, ?_, ?_, e2 ▸ w_odd1 lo hi r hb i1 i2⟩ <;> · simp at q1; omega
  | false =>
    obtain ⟨r, q1, q2, i2⟩ := g_range hL (a := a + 1) lo hi (by omega) (by omega) (by omega)
    exact ⟨r, by omega, by omega, e2 ▸ w_odd2 lo hi r hb i1 i2⟩
theorem w_inst_mz {L : List Int} {a a1 a2 a3 a4 a5 a' : Int} (xs : List Inst) (hx : xs.length ≤ 4) (iR : ImpR Try.prog 98 25 (St L a) [] 114 2 (xs.map instE) (St L a1)) (i1 : GI L 15 [vint 15] (vbool true) a1 a2) (r : Int) (hr : 0 ≤ r ∧ r < xs.length) (ke : List UInt8) (we : Int) (i2 : GI L 16 [vint ((xs.map instE).length : Int)] (vint r) a2 a3) (i3 : GI L 69 [vlst (strs [(nth ([], 0) xs r.toNat).1, [], [65], [105, 97]])] (vstr ke) a3 a4) (i4 : GI L 55 [vint 1, vint 100] (vint we) a4 a5) (i5 : GI L 15 [vint 25] (vbool true) a5 a')  : Imp Try.prog 33 25 (St L a) [] (resOf [vlst []]) (St L a') := by
  have hle := inst_len xs
  have hln : (xs.map instE).length = xs.length := by simp
  have hat := inst_at (l := xs) (k := r.toNat) (by omega)
  refine imp_of (us := [vlst []]) (cs' := (St L a')) (by kernel_rfl) Try.func33 rfl rfl rfl rfl fun X bl hN => ?_
  refine awp_seq ?_
  refine awp_plain hN rfl ?_
  refine seq_run0 (stp_assign (.dat _) rfl) ?_
  refine awp_seq ?_
  refine awp_plain hN rfl ?_
  first | refine seq_run0 (stp_move (.dat _) rfl) ?_ | refine seq_run0 (stp_move (.ptr _ _) rfl) ?_ | refine seq_run0 (stp_move (.row _ _) rfl) ?_ | refine seq_run0 (stp_move (.rptr _ _ _ _ _) rfl) ?_ | refine seq_run0 (stp_move (.mp _) rfl) ?_
  refine seq_run3 (stp_impR 101 (iR) rfl trivial rfl rfl) rfl rfl ?_
  first | refine seq_run0 (stp_assign (.dat _) rfl) ?_ | refine seq_run0 (stp_assign (.ptr _ _) rfl) ?_ | refine seq_run0 (stp_assign (.row _ _) rfl) ?_ | refine seq_run0 (stp_assign (.rptr _ _ _ _ _) rfl) ?_ | refine seq_run0 (stp_assign (.mp _) rfl) ?_
  refine awp_seq ?_
  refine awp_seq ?_
  refine awp_plain hN rfl ?_
  first | refine seq_run0 (stp_move (.dat _) rfl) ?_ | refine seq_run0 (stp_move (.ptr _ _) rfl) ?_ | refine seq_run0 (stp_move (.row _ _) rfl) ?_ | refine seq_run0 (stp_move (.rptr _ _ _ _ _) rfl) ?_ | refine seq_run0 (stp_move (.mp _) rfl) ?_
  refine seq_run2 (stp_imp (i1) rfl ⟨.inl rfl, trivial⟩ rfl) rfl ?_
  refine awp_cond _ rfl (fun h1 => ?_) (fun h1 => (by exfalso; simp at h1))
  try simp at h1
  refine awp_seq ?_
  refine awp_plain hN rfl ?_
  first | refine seq_run0 (stp_move (.dat _) rfl) ?_ | refine seq_run0 (stp_move (.ptr _ _) rfl) ?_ | refine seq_run0 (stp_move (.row _ _) rfl) ?_ | refine seq_run0 (stp_move (.rptr _ _ _ _ _) rfl) ?_ | refine seq_run0 (stp_move (.mp _) rfl) ?_
  first | refine seq_run0 (stp_move (.dat _) rfl) ?_ | refine seq_run0 (stp_move (.ptr _ _) rfl) ?_ | refine seq_run0 (stp_move (.row _ _) rfl) ?_ | refine seq_run0 (stp_move (.rptr _ _ _ _ _) rfl) ?_ | refine seq_run0 (stp_move (.mp _) rfl) ?_
  first | refine seq_run0 (stp_move (.dat _) rfl) ?_ | refine seq_run0 (stp_move (.ptr _ _) rfl) ?_ | refine seq_run0 (stp_move (.row _ _) rfl) ?_ | refine seq_run0 (stp_move (.rptr _ _ _ _ _) rfl) ?_ | refine seq_run0 (stp_move (.mp _) rfl) ?_
  first | refine seq_run0 (stp_len_lst tyU48 rfl) ?_ | refine seq_run1 (stp_len_row tyU48 rfl rfl) rfl ?_ | refine seq_run0 (stp_len_nil tyU48 rfl) ?_
  refine seq_run2 (stp_imp (i2) rfl ⟨.inl rfl, trivial⟩ rfl) rfl ?_
  first | refine seq_run0 (stp_idxE tyE48 rfl rfl (by omega) (by assumption)) ?_ | refine seq_run0 (stp_idxI tyE48 rfl rfl (by omega) (by assumption)) ?_ | refine seq_run1 (stp_idxR tyE48 rfl rfl (by first | rfl | omega | simp) (by first | omega | (simp; omega))) rfl ?_ | refine seq_run1 (stp_idxRI tyE48 rfl rfl (by first | rfl | omega | simp) (by first | omega | (simp; omega))) rfl ?_
  first | refine seq_run0 (stp_assign (.dat _) rfl) ?_ | refine seq_run0 (stp_assign (.ptr _ _) rfl) ?_ | refine seq_run0 (stp_assign (.row _ _) rfl) ?_ | refine seq_run0 (stp_assign (.rptr _ _ _ _ _) rfl) ?_ | refine seq_run0 (stp_assign (.mp _) rfl) ?_
  refine awp_plain hN rfl ?_
  first | refine seq_run0 (stp_move (.dat _) rfl) ?_ | refine seq_run0 (stp_move (.ptr _ _) rfl) ?_ | refine seq_run0 (stp_move (.row _ _) rfl) ?_ | refine seq_run0 (stp_move (.rptr _ _ _ _ _) rfl) ?_ | refine seq_run0 (stp_move (.mp _) rfl) ?_
  first | refine seq_run0 (stp_move (.dat _) rfl) ?_ | refine seq_run0 (stp_move (.ptr _ _) rfl) ?_ | refine seq_run0 (stp_move (.row _ _) rfl) ?_ | refine seq_run0 (stp_move (.rptr _ _ _ _ _) rfl) ?_ | refine seq_run0 (stp_move (.mp _) rfl) ?_
  first | refine seq_run0 (stp_move (.dat _) rfl) ?_ | refine seq_run0 (stp_move (.ptr _ _) rfl) ?_ | refine seq_run0 (stp_move (.row _ _) rfl) ?_ | refine seq_run0 (stp_move (.rptr _ _ _ _ _) rfl) ?_ | refine seq_run0 (stp_move (.mp _) rfl) ?_
  first | refine seq_run0 (stp_move (.dat _) rfl) ?_ | refine seq_run0 (stp_move (.ptr _ _) rfl) ?_ | refine seq_run0 (stp_move (.row _ _) rfl) ?_ | refine seq_run0 (stp_move (.rptr _ _ _ _ _) rfl) ?_ | refine seq_run0 (stp_move (.mp _) rfl) ?_
  first | refine seq_run0 (stp_nilP rfl) ?_ | refine seq_run0 (stp_nilE rfl) ?_ | refine seq_run0 (stp_nilR rfl) ?_
  first | refine seq_run0 (stp_fldP tyF114_0 rfl) ?_ | refine seq_run0 (stp_fldE tyF114_0 rfl) ?_ | refine seq_run0 (stp_fldR tyF114_0 rfl) ?_
  first | refine seq_run1 (stp_load1 tyS9 rfl rfl) rfl ?_ | refine seq_run0 (stp_loadE1 tyS9 rfl (by first | assumption | rfl) rfl) ?_ | refine seq_run1 (stp_loadR1 tyS9 rfl (by first | rfl | omega | simp) (by first | assumption | exact List.getElem?_set_self (by simp; omega)) rfl) rfl ?_
  refine seq_run0 (stp_lit [[_], [_], [_], [_]] tyL73 ⟨rfl, .inl ⟨_, rfl, rfl, rfl⟩, rfl, rfl, .inl ⟨_, rfl, rfl, rfl⟩, rfl, rfl, .inl ⟨_, rfl, rfl, rfl⟩, rfl, rfl, .inl ⟨_, rfl, rfl, rfl⟩, rfl, trivial⟩ rfl rfl) ?_
  refine seq_run2 (stp_imp (i3) rfl ⟨.inl rfl, trivial⟩ rfl) rfl ?_
  first | refine seq_run0 (stp_move (.dat _) rfl) ?_ | refine seq_run0 (stp_move (.ptr _ _) rfl) ?_ | refine seq_run0 (stp_move (.row _ _) rfl) ?_ | refine seq_run0 (stp_move (.rptr _ _ _ _ _) rfl) ?_ | refine seq_run0 (stp_move (.mp _) rfl) ?_
  refine seq_run2 (stp_imp (i4) rfl ⟨.inl rfl, .inl rfl, trivial⟩ rfl) rfl ?_
  first | refine seq_run0 (stp_nilP rfl) ?_ | refine seq_run0 (stp_nilE rfl) ?_ | refine seq_run0 (stp_nilR rfl) ?_
  first | refine seq_run0 (stp_fldP tyF114_0 rfl) ?_ | refine seq_run0 (stp_fldE tyF114_0 rfl) ?_ | refine seq_run0 (stp_fldR tyF114_0 rfl) ?_
  first | refine seq_run2 (stp_store1 tyS9 rfl rfl rfl rfl) rfl ?_ | refine seq_run2 (stp_storeS tyS9 rfl rfl rfl rfl) rfl ?_ | refine seq_run2 (stp_storeR tyS9 rfl rfl rfl (by first | rfl | omega | simp) (by first | assumption | exact List.getElem?_set_self (by simp; omega)) rfl) rfl ?_
  first | refine seq_run0 (stp_nilP rfl) ?_ | refine seq_run0 (stp_nilE rfl) ?_ | refine seq_run0 (stp_nilR rfl) ?_
  first | refine seq_run0 (stp_fldP tyF114_1 rfl) ?_ | refine seq_run0 (stp_fldE tyF114_1 rfl) ?_ | refine seq_run0 (stp_fldR tyF114_1 rfl) ?_
  first | refine seq_run2 (stp_store1 tyS3 rfl rfl rfl rfl) rfl ?_ | refine seq_run2 (stp_storeS tyS3 rfl rfl rfl rfl) rfl ?_ | refine seq_run2 (stp_storeR tyS3 rfl rfl rfl (by first | rfl | omega | simp) (by first | assumption | exact List.getElem?_set_self (by simp; omega)) rfl) rfl ?_
  refine awp_seq ?_
  refine awp_seq ?_
  refine awp_plain hN rfl ?_
  first | refine seq_run0 (stp_move (.dat _) rfl) ?_ | refine seq_run0 (stp_move (.ptr _ _) rfl) ?_ | refine seq_run0 (stp_move (.row _ _) rfl) ?_ | refine seq_run0 (stp_move (.rptr _ _ _ _ _) rfl) ?_ | refine seq_run0 (stp_move (.mp _) rfl) ?_
  refine seq_run2 (stp_imp (i5) rfl ⟨.inl rfl, trivial⟩ rfl) rfl ?_
  refine awp_cond _ rfl (fun h2 => ?_) (fun h2 => (by exfalso; simp at h2))
  try simp at h2
  refine awp_seq ?_
  refine awp_plain hN rfl ?_
  refine seq_run0 (stp_assign (.dat _) rfl) ?_
  refine awp_ret ?_
  exact ⟨trivial, ⟨.inr ⟨rfl, rfl⟩, trivial⟩, rfl⟩
theorem w_inst_mo {L : List Int} {a a1 a2 a3 a4 a5 a' : Int} (xs : List Inst) (hx : xs.length ≤ 4) (iR : ImpR Try.prog 98 25 (St L a) [] 114 2 (xs.map instE) (St L a1)) (i1 : GI L 15 [vint 15] (vbool true) a1 a2) (r : Int) (hr : 0 ≤ r ∧ r < xs.length) (ke : List UInt8) (we : Int) (i2 : GI L 16 [vint ((xs.map instE).length : Int)] (vint r) a2 a3) (i3 : GI L 69 [vlst (strs [(nth ([], 0) xs r.toNat).1, [], [65], [105, 97]])] (vstr ke) a3 a4) (i4 : GI L 55 [vint 1, vint 100] (vint we) a4 a5) (i5 : GI L 15 [vint 25] (vbool false) a5 a')  : Imp Try.prog 33 25 (St L a) [] (resOf [vlst ((xs.set r.toNat (ke, we)).map instE)]) (St L a') := by
  have hle := inst_len xs
  have hln : (xs.map instE).length = xs.length := by simp
  have hat := inst_at (l := xs) (k := r.toNat) (by omega)
  refine imp_of (us := [vlst ((xs.set r.toNat (ke, we)).map instE)]) (cs' := (St L a')) (by kernel_rfl) Try.func33 rfl rfl rfl rfl fun X bl hN => ?_
  refine awp_seq ?_
  refine awp_plain hN rfl ?_
  refine seq_run0 (stp_assign (.dat _) rfl) ?_
  refine awp_seq ?_
  refine awp_plain hN rfl ?_
  first | refine seq_run0 (stp_move (.dat _) rfl) ?_ | refine seq_run0 (stp_move (.ptr _ _) rfl) ?_ | refine seq_run0 (stp_move (.row _ _) rfl) ?_ | refine seq_run0 (stp_move (.rptr _ _ _ _ _) rfl) ?_ | refine seq_run0 (stp_move (.mp _) rfl) ?_
  refine seq_run3 (stp_impR 101 (iR) rfl trivial rfl rfl) rfl rfl ?_
  first | refine seq_run0 (stp_assign (.dat _) rfl) ?_ | refine seq_run0 (stp_assign (.ptr _ _) rfl) ?_ | refine seq_run0 (stp_assign (.row _ _) rfl) ?_ | refine seq_run0 (stp_assign (.rptr _ _ _ _ _) rfl) ?_ | refine seq_run0 (stp_assign (.mp _) rfl) ?_
  refine awp_seq ?_
  refine awp_seq ?_
  refine awp_plain hN rfl ?_
  first | refine seq_run0 (stp_move (.dat _) rfl) ?_ | refine seq_run0 (stp_move (.ptr _ _) rfl) ?_ | refine seq_run0 (stp_move (.row _ _) rfl) ?_ | refine seq_run0 (stp_move (.rptr _ _ _ _ _) rfl) ?_ | refine seq_run0 (stp_move (.mp _) rfl) ?_
  refine seq_run2 (stp_imp (i1) rfl ⟨.inl rfl, trivial⟩ rfl) rfl ?_
  refine awp_cond _ rfl (fun h1 => ?_) (fun h1 => (by exfalso; simp at h1))
  try simp at h1
  refine awp_seq ?_
  refine awp_plain hN rfl ?_
  first | refine seq_run0 (stp_move (.dat _) rfl) ?_ | refine seq_run0 (stp_move (.ptr _ _) rfl) ?_ | refine seq_run0 (stp_move (.row _ _) rfl) ?_ | refine seq_run0 (stp_move (.rptr _ _ _ _ _) rfl) ?_ | refine seq_run0 (stp_move (.mp _) rfl) ?_
  first | refine seq_run0 (stp_move (.dat _) rfl) ?_ | refine seq_run0 (stp_move (.ptr _ _) rfl) ?_ | refine seq_run0 (stp_move (.row _ _) rfl) ?_ | refine seq_run0 (stp_move (.rptr _ _ _ _ _) rfl) ?_ | refine seq_run0 (stp_move (.mp _) rfl) ?_
  first | refine seq_run0 (stp_move (.dat _) rfl) ?_ | refine seq_run0 (stp_move (.ptr _ _) rfl) ?_ | refine seq_run0 (stp_move (.row _ _) rfl) ?_ | refine seq_run0 (stp_move (.rptr _ _ _ _ _) rfl) ?_ | refine seq_run0 (stp_move (.mp _) rfl) ?_
  first | refine seq_run0 (stp_len_lst tyU48 rfl) ?_ | refine seq_run1 (stp_len_row tyU48 rfl rfl) rfl ?_ | refine seq_run0 (stp_len_nil tyU48 rfl) ?_
  refine seq_run2 (stp_imp (i2) rfl ⟨.inl rfl, trivial⟩ rfl) rfl ?_
  first | refine seq_run0 (stp_idxE tyE48 rfl rfl (by omega) (by assumption)) ?_ | refine seq_run0 (stp_idxI tyE48 rfl rfl (by omega) (by assumption)) ?_ | refine seq_run1 (stp_idxR tyE48 rfl rfl (by first | rfl | omega | simp) (by first | omega | (simp; omega))) rfl ?_ | refine seq_run1 (stp_idxRI tyE48 rfl rfl (by first | rfl | omega | simp) (by first | omega | (simp; omega))) rfl ?_
  first | refine seq_run0 (stp_assign (.dat _) rfl) ?_ | refine seq_run0 (stp_assign (.ptr _ _) rfl) ?_ | refine seq_run0 (stp_assign (.row _ _) rfl) ?_ | refine seq_run0 (stp_assign (.rptr _ _ _ _ _) rfl) ?_ | refine seq_run0 (stp_assign (.mp _) rfl) ?_
  refine awp_plain hN rfl ?_
  first | refine seq_run0 (stp_move (.dat _) rfl) ?_ | refine seq_run0 (stp_move (.ptr _ _) rfl) ?_ | refine seq_run0 (stp_move (.row _ _) rfl) ?_ | refine seq_run0 (stp_move (.rptr _ _ _ _ _) rfl) ?_ | refine seq_run0 (stp_move (.mp _) rfl) ?_
  first | refine seq_run0 (stp_move (.dat _) rfl) ?_ | refine seq_run0 (stp_move (.ptr _ _) rfl) ?_ | refine seq_run0 (stp_move (.row _ _) rfl) ?_ | refine seq_run0 (stp_move (.rptr _ _ _ _ _) rfl) ?_ | refine seq_run0 (stp_move (.mp _) rfl) ?_
  first | refine seq_run0 (stp_move (.dat _) rfl) ?_ | refine seq_run0 (stp_move (.ptr _ _) rfl) ?_ | refine seq_run0 (stp_move (.row _ _) rfl) ?_ | refine seq_run0 (stp_move (.rptr _ _ _ _ _) rfl) ?_ | refine seq_run0 (stp_move (.mp _) rfl) ?_
  first | refine seq_run0 (stp_move (.dat _) rfl) ?_ | refine seq_run0 (stp_move (.ptr _ _) rfl) ?_ | refine seq_run0 (stp_move (.row _ _) rfl) ?_ | refine seq_run0 (stp_move (.rptr _ _ _ _ _) rfl) ?_ | refine seq_run0 (stp_move (.mp _) rfl) ?_
  first | refine seq_run0 (stp_nilP rfl) ?_ | refine seq_run0 (stp_nilE rfl) ?_ | refine seq_run0 (stp_nilR rfl) ?_
  first | refine seq_run0 (stp_fldP tyF114_0 rfl) ?_ | refine seq_run0 (stp_fldE tyF114_0 rfl) ?_ | refine seq_run0 (stp_fldR tyF114_0 rfl) ?_
  first | refine seq_run1 (stp_load1 tyS9 rfl rfl) rfl ?_ | refine seq_run0 (stp_loadE1 tyS9 rfl (by first | assumption | rfl) rfl) ?_ | refine seq_run1 (stp_loadR1 tyS9 rfl (by first | rfl | omega | simp) (by first | assumption | exact List.getElem?_set_self (by simp; omega)) rfl) rfl ?_
  refine seq_run0 (stp_lit [[_], [_], [_], [_]] tyL73 ⟨rfl, .inl ⟨_, rfl, rfl, rfl⟩, rfl, rfl, .inl ⟨_, rfl, rfl, rfl⟩, rfl, rfl, .inl ⟨_, rfl, rfl, rfl⟩, rfl, rfl, .inl ⟨_, rfl, rfl, rfl⟩, rfl, trivial⟩ rfl rfl) ?_
  refine seq_run2 (stp_imp (i3) rfl ⟨.inl rfl, trivial⟩ rfl) rfl ?_
  first | refine seq_run0 (stp_move (.dat _) rfl) ?_ | refine seq_run0 (stp_move (.ptr _ _) rfl) ?_ | refine seq_run0 (stp_move (.row _ _) rfl) ?_ | refine seq_run0 (stp_move (.rptr _ _ _ _ _) rfl) ?_ | refine seq_run0 (stp_move (.mp _) rfl) ?_
  refine seq_run2 (stp_imp (i4) rfl ⟨.inl rfl, .inl rfl, trivial⟩ rfl) rfl ?_
  first | refine seq_run0 (stp_nilP rfl) ?_ | refine seq_run0 (stp_nilE rfl) ?_ | refine seq_run0 (stp_nilR rfl) ?_
  first | refine seq_run0 (stp_fldP tyF114_0 rfl) ?_ | refine seq_run0 (stp_fldE tyF114_0 rfl) ?_ | refine seq_run0 (stp_fldR tyF114_0 rfl) ?_
  first | refine seq_run2 (stp_store1 tyS9 rfl rfl rfl rfl) rfl ?_ | refine seq_run2 (stp_storeS tyS9 rfl rfl rfl rfl) rfl ?_ | refine seq_run2 (stp_storeR tyS9 rfl rfl rfl (by first | rfl | omega | simp) (by first | assumption | exact List.getElem?_set_self (by simp; omega)) rfl) rfl ?_
  first | refine seq_run0 (stp_nilP rfl) ?_ | refine seq_run0 (stp_nilE rfl) ?_ | refine seq_run0 (stp_nilR rfl) ?_
  first | refine seq_run0 (stp_fldP tyF114_1 rfl) ?_ | refine seq_run0 (stp_fldE tyF114_1 rfl) ?_ | refine seq_run0 (stp_fldR tyF114_1 rfl) ?_
  first | refine seq_run2 (stp_store1 tyS3 rfl rfl rfl rfl) rfl ?_ | refine seq_run2 (stp_storeS tyS3 rfl rfl rfl rfl) rfl ?_ | refine seq_run2 (stp_storeR tyS3 rfl rfl rfl (by first | rfl | omega | simp) (by first | assumption | exact List.getElem?_set_self (by simp; omega)) rfl) rfl ?_
  refine awp_seq ?_
  refine awp_seq ?_
  refine awp_plain hN rfl ?_
  first | refine seq_run0 (stp_move (.dat _) rfl) ?_ | refine seq_run0 (stp_move (.ptr _ _) rfl) ?_ | refine seq_run0 (stp_move (.row _ _) rfl) ?_ | refine seq_run0 (stp_move (.rptr _ _ _ _ _) rfl) ?_ | refine seq_run0 (stp_move (.mp _) rfl) ?_
  refine seq_run2 (stp_imp (i5) rfl ⟨.inl rfl, trivial⟩ rfl) rfl ?_
  refine awp_cond _ rfl (fun h2 => (by exfalso; simp at h2)) (fun h2 => ?_)
  try simp at h2
  refine awp_skip ?_
  refine awp_seq ?_
  refine awp_plain hN rfl ?_
  first | refine seq_run0 (stp_move (.dat _) rfl) ?_ | refine seq_run0 (stp_move (.ptr _ _) rfl) ?_ | refine seq_run0 (stp_move (.row _ _) rfl) ?_ | refine seq_run0 (stp_move (.rptr _ _ _ _ _) rfl) ?_ | refine seq_run0 (stp_move (.mp _) rfl) ?_
  first | refine seq_run0 (stp_assign (.dat _) rfl) ?_ | refine seq_run0 (stp_assign (.ptr _ _) rfl) ?_ | refine seq_run0 (stp_assign (.row _ _) rfl) ?_ | refine seq_run0 (stp_assign (.rptr _ _ _ _ _) rfl) ?_ | refine seq_run0 (stp_assign (.mp _) rfl) ?_
  refine awp_ret ?_
  exact ⟨trivial, ⟨⟨_, _, _, rfl, by simp, by rw [List.map_set]; simp [instE]⟩, trivial⟩, rfl⟩
theorem w_inst_kz {L : List Int} {a a1 a2 a3 a4 a5 a' : Int} (xs : List Inst) (hx : xs.length ≤ 4) (iR : ImpR Try.prog 98 25 (St L a) [] 114 2 (xs.map instE) (St L a1)) (i1 : GI L 15 [vint 15] (vbool false) a1 a2)  (i2 : GI L 15 [vint 25] (vbool true) a2 a')  : Imp Try.prog 33 25 (St L a) [] (resOf [vlst []]) (St L a') := by
  have hle := inst_len xs
  have hln : (xs.map instE).length = xs.length := by simp
  refine imp_of (us := [vlst []]) (cs' := (St L a')) (by kernel_rfl) Try.func33 rfl rfl rfl rfl fun X bl hN => ?_
  refine awp_seq ?_
  refine awp_plain hN rfl ?_
  refine seq_run0 (stp_assign (.dat _) rfl) ?_
  refine awp_seq ?_
  refine awp_plain hN rfl ?_
  first | refine seq_run0 (stp_move (.dat _) rfl) ?_ | refine seq_run0 (stp_move (.ptr _ _) rfl) ?_ | refine seq_run0 (stp_move (.row _ _) rfl) ?_ | refine seq_run0 (stp_move (.rptr _ _ _ _ _) rfl) ?_ | refine seq_run0 (stp_move (.mp _) rfl) ?_
  refine seq_run3 (stp_impR 101 (iR) rfl trivial rfl rfl) rfl rfl ?_
  first | refine seq_run0 (stp_assign (.dat _) rfl) ?_ | refine seq_run0 (stp_assign (.ptr _ _) rfl) ?_ | refine seq_run0 (stp_assign (.row _ _) rfl) ?_ | refine seq_run0 (stp_assign (.rptr _ _ _ _ _) rfl) ?_ | refine seq_run0 (stp_assign (.mp _) rfl) ?_
  refine awp_seq ?_
  refine awp_seq ?_
  refine awp_plain hN rfl ?_
  first | refine seq_run0 (stp_move (.dat _) rfl) ?_ | refine seq_run0 (stp_move (.ptr _ _) rfl) ?_ | refine seq_run0 (stp_move (.row _ _) rfl) ?_ | refine seq_run0 (stp_move (.rptr _ _ _ _ _) rfl) ?_ | refine seq_run0 (stp_move (.mp _) rfl) ?_
  refine seq_run2 (stp_imp (i1) rfl ⟨.inl rfl, trivial⟩ rfl) rfl ?_
  refine awp_cond _ rfl (fun h1 => (by exfalso; simp at h1)) (fun h1 => ?_)
  try simp at h1
  refine awp_skip ?_
  refine awp_seq ?_
  refine awp_seq ?_
  refine awp_plain hN rfl ?_
  first | refine seq_run0 (stp_move (.dat _) rfl) ?_ | refine seq_run0 (stp_move (.ptr _ _) rfl) ?_ | refine seq_run0 (stp_move (.row _ _) rfl) ?_ | refine seq_run0 (stp_move (.rptr _ _ _ _ _) rfl) ?_ | refine seq_run0 (stp_move (.mp _) rfl) ?_
  refine seq_run2 (stp_imp (i2) rfl ⟨.inl rfl, trivial⟩ rfl) rfl ?_
  refine awp_cond _ rfl (fun h2 => ?_) (fun h2 => (by exfalso; simp at h2))
  try simp at h2
  refine awp_seq ?_
  refine awp_plain hN rfl ?_
  refine seq_run0 (stp_assign (.dat _) rfl) ?_
  refine awp_ret ?_
  exact ⟨trivial, ⟨.inr ⟨rfl, rfl⟩, trivial⟩, rfl⟩
theorem w_inst_ko {L : List Int} {a a1 a2 a3 a4 a5 a' : Int} (xs : List Inst) (hx : xs.length ≤ 4) (iR : ImpR Try.prog 98 25 (St L a) [] 114 2 (xs.map instE) (St L a1)) (i1 : GI L 15 [vint 15] (vbool false) a1 a2)  (i2 : GI L 15 [vint 25] (vbool false) a2 a')  : Imp Try.prog 33 25 (St L a) [] (resOf [vlst (xs.map instE)]) (St L a') := by
  have hle := inst_len xs
  have hln : (xs.map instE).length = xs.length := by simp
  refine imp_of (us := [vlst (xs.map instE)]) (cs' := (St L a')) (by kernel_rfl) Try.func33 rfl rfl rfl rfl fun X bl hN => ?_
  refine awp_seq ?_
  refine awp_plain hN rfl ?_
  refine seq_run0 (stp_assign (.dat _) rfl) ?_
  refine awp_seq ?_
  refine awp_plain hN rfl ?_
  first | refine seq_run0 (stp_move (.dat _) rfl) ?_ | refine seq_run0 (stp_move (.ptr _ _) rfl) ?_ | refine seq_run0 (stp_move (.row _ _) rfl) ?_ | refine seq_run0 (stp_move (.rptr _ _ _ _ _) rfl) ?_ | refine seq_run0 (stp_move (.mp _) rfl) ?_
  refine seq_run3 (stp_impR 101 (iR) rfl trivial rfl rfl) rfl rfl ?_
  first | refine seq_run0 (stp_assign (.dat _) rfl) ?_ | refine seq_run0 (stp_assign (.ptr _ _) rfl) ?_ | refine seq_run0 (stp_assign (.row _ _) rfl) ?_ | refine seq_run0 (stp_assign (.rptr _ _ _ _ _) rfl) ?_ | refine seq_run0 (stp_assign (.mp _) rfl) ?_
  refine awp_seq ?_
  refine awp_seq ?_
  refine awp_plain hN rfl ?_
  first | refine seq_run0 (stp_move (.dat _) rfl) ?_ | refine seq_run0 (stp_move (.ptr _ _) rfl) ?_ | refine seq_run0 (stp_move (.row _ _) rfl) ?_ | refine seq_run0 (stp_move (.rptr _ _ _ _ _) rfl) ?_ | refine seq_run0 (stp_move (.mp _) rfl) ?_
  refine seq_run2 (stp_imp (i1) rfl ⟨.inl rfl, trivial⟩ rfl) rfl ?_
  refine awp_cond _ rfl (fun h1 => (by exfalso; simp at h1)) (fun h1 => ?_)
  try simp at h1
  refine awp_skip ?_
  refine awp_seq ?_
  refine awp_seq ?_
  refine awp_plain hN rfl ?_
  first | refine seq_run0 (stp_move (.dat _) rfl) ?_ | refine seq_run0 (stp_move (.ptr _ _) rfl) ?_ | refine seq_run0 (stp_move (.row _ _) rfl) ?_ | refine seq_run0 (stp_move (.rptr _ _ _ _ _) rfl) ?_ | refine seq_run0 (stp_move (.mp _) rfl) ?_
  refine seq_run2 (stp_imp (i2) rfl ⟨.inl rfl, trivial⟩ rfl) rfl ?_
  refine awp_cond _ rfl (fun h2 => (by exfalso; simp at h2)) (fun h2 => ?_)
  try simp at h2
  refine awp_skip ?_
  refine awp_seq ?_
  refine awp_plain hN rfl ?_
  first | refine seq_run0 (stp_move (.dat _) rfl) ?_ | refine seq_run0 (stp_move (.ptr _ _) rfl) ?_ | refine seq_run0 (stp_move (.row _ _) rfl) ?_ | refine seq_run0 (stp_move (.rptr _ _ _ _ _) rfl) ?_ | refine seq_run0 (stp_move (.mp _) rfl) ?_
  first | refine seq_run0 (stp_assign (.dat _) rfl) ?_ | refine seq_run0 (stp_assign (.ptr _ _) rfl) ?_ | refine seq_run0 (stp_assign (.row _ _) rfl) ?_ | refine seq_run0 (stp_assign (.rptr _ _ _ _ _) rfl) ?_ | refine seq_run0 (stp_assign (.mp _) rfl) ?_
  refine awp_ret ?_
  exact ⟨trivial, ⟨⟨_, _, _, rfl, rfl, rfl⟩, trivial⟩, rfl⟩
structure InsOK (xs : List Inst) : Prop where
  len : xs.length ≤ 4
  ok : ∀ p, p ∈ xs → p.1.length ≤ 10 ∧ -1099511627776 ≤ p.2 ∧ p.2 ≤ 1099511627776
theorem iks_short : ∀ s, s ∈ iks → s.length ≤ 10 := by decide
theorem g_rightInstances {L : List Int} (hL : ArgL L) {a : Int} (ha0 : 0 ≤ a) (ha1 : a ≤ 999999000) : ∃ xs a', InsOK xs ∧ xs ≠ [] ∧ (∀ p, p ∈ xs → p.1 ∈ iks ∧ 1 ≤ p.2 ∧ p.2 ≤ 5) ∧ a ≤ a' ∧ a' ≤ a + 8 ∧ ImpR Try.prog 98 25 (St L a) [] 114 2 (xs.map instE) (St L a') := by
  obtain ⟨t, q1, q2, q3⟩ := trajS (S := RStep L) (I := RInv a) (n := 4) (fun k hk s hI => rstep hL ha0 ha1 k hk s hI) ([], a) ⟨by simp, by simp, by simp, by simp, by simp⟩
  obtain ⟨r1, r2, r3, r4, r5⟩ := q3 4 (Nat.le_refl _)
  exact ⟨(t 4).1, (t 4).2, ⟨r3, fun p hp => ⟨iks_short _ (r5 p hp).1, by have := (r5 p hp).2; omega, by have := (r5 p hp).2; omega⟩⟩, r4 rfl, r5, r1, by omega, w_rightInstances t q1 q2 q3⟩
theorem g_instances {L : List Int} (hL : ArgL L) {a : Int} (ha0 : 0 ≤ a) (ha1 : a ≤ 999998000) : ∃ xs a', InsOK xs ∧ a ≤ a' ∧ a' ≤ a + 20 ∧ GI L 33 [] (vlst (xs.map instE)) a a' := by
  obtain ⟨xs, a1, hok, hne, hin, h1, h2, iR⟩ := g_rightInstances hL ha0 (by omega)
  obtain ⟨b, i1⟩ := g_flip hL (a := a1) 15 (by omega) (by omega) (by omega) (by omega)
  have hnil : InsOK [] := ⟨by simp, by simp⟩
  have hp : 0 < xs.length := by cases xs with | nil => exact absurd rfl hne | cons _ _ => simp
  have hln : (xs.map instE).length = xs.length := by simp
  have hlen := hok.len
  cases b with
  | false =>
    obtain ⟨z, i2⟩ := g_flip hL (a := a1 + 1) 25 (by omega) (by omega) (by omega) (by omega)
    cases z with
    | true => exact ⟨[], a1 + 1 + 1, hnil, by omega, by omega, w_inst_kz (a3 := 0) (a4 := 0) (a5 := 0) xs hok.len iR i1 i2⟩
    | false => exact ⟨xs, a1 + 1 + 1, hok, by omega, by omega, w_inst_ko (a3 := 0) (a4 := 0) (a5 := 0) xs hok.len iR i1 i2⟩
  | true =>
    obtain ⟨r, r1, r2, i2⟩ := g_next hL (a := a1 + 1) ((xs.map instE).length : Int) (by omega) (by omega) (by omega) (by omega)
    obtain ⟨ke, k1, i3⟩ := g_some hL (a := a1 + 1 + 1) [(nth ([], 0) xs r.toNat).1, [], [65], [105, 97]] (by omega) (by omega) (by simp) (by simp)
    obtain ⟨we, w1, w2, i4⟩ := g_odd hL (a := a1 + 1 + 1 + 1) 1 100 (by omega) (by omega) (by omega)
    obtain ⟨z, i5⟩ := g_flip hL (a := a1 + 1 + 1 + 1 + 2) 25 (by omega) (by omega) (by omega) (by omega)
    have hke : ke.length ≤ 10 := by
      have := (hok.ok _ (nth_mem (d := ([], 0)) (l := xs) (k := r.toNat) (by omega))).1
      simp only [List.mem_cons, List.not_mem_nil, or_false] at k1
      rcases k1 with rfl | rfl | rfl | rfl <;> simp <;> omega
    have hset : InsOK (xs.set r.toNat (ke, we)) := ⟨by simpa using hok.len, fun p hp => by
      rcases List.mem_or_eq_of_mem_set hp with h | rfl
      · exact hok.ok p h
      · exact ⟨hke, w1, w2⟩⟩
    cases z with
    | true => exact ⟨[], _, hnil, by omega, by omega, w_inst_mz xs hok.len iR i1 r ⟨r1, by omega⟩ ke we i2 i3 i4 i5⟩
    | false => exact ⟨_, _, hset, by omega, by omega, w_inst_mo xs hok.len iR i1 r ⟨r1, by omega⟩ ke we i2 i3 i4 i5⟩
end Go.Proofs.Ytmcegaabopcmfaa
