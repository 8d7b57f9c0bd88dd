/- Functions with a function: IndexFunc, ContainsFunc, BinarySearchFunc; CallsFault, InstanceAt, place. -/
import Derived.Test.YtmcegaabopcmfaaCa
import Derived.Test.YtmcegaabopcmfaaOrd
namespace Go.Proofs.Ytmcegaabopcmfaa
open Go.RowKit
set_option linter.unusedVariables false
set_option maxRecDepth 20000

def idxF (p : Inst → Bool) : List Inst → Int → Int
  | [], _ => -1
  | x :: l, i => if p x then i else idxF p l (i + 1)
theorem idxF_rng (p : Inst → Bool) : ∀ (l : List Inst) (i : Int), 0 ≤ i → (idxF p l i = -1 ∧ l.any p = false) ∨ (i ≤ idxF p l i ∧ idxF p l i < i + l.length ∧ l.any p = true) := by
  intro l
  induction l with
  | nil => intro i hi; exact .inl ⟨rfl, rfl⟩
  | cons x l ih =>
    intro i hi
    unfold idxF
    by_cases h : p x = true
    · rw [if_pos h]; right; refine ⟨by omega, by simp only [List.length_cons]; omega, by simp [h]⟩
    · rw [if_neg h]
      rcases ih (i + 1) (by omega) with h1 | h1
      · left; refine ⟨h1.1, by simp [h, h1.2]⟩
      · right; refine ⟨by omega, by simp only [List.length_cons]; omega, by simp only [List.any_cons, h1.2.2]; simp⟩
theorem idxF_any (p : Inst → Bool) (l : List Inst) : decide (0 ≤ idxF p l 0) = l.any p := by
  rcases idxF_rng p l 0 (by omega) with h | h
  · rw [h.2, h.1]; rfl
  · rw [h.2.2]; simp; omega
theorem k_idxCall (xs : List Inst) (hl : xs.length ≤ 1000) (fn : Nat) (cs : List V) (p : Inst → Bool) (hp : ∀ x, x ∈ xs → Fn Try.prog fn ([vagg (instE x)] ++ cs) (resOf [vbool (p x)]))  : Fn Try.prog 123 [vlst (xs.map instE), vfn fn cs] (resOf [vint (idxF p xs 0)]) := by
  have hle := inst_len xs
  have hln : (xs.map instE).length = xs.length := by simp
  refine ⟨by kernel_rfl, pure_of (us := [vint (idxF p xs 0)]) Try.func123 rfl rfl rfl rfl fun X hN => ?_⟩
  refine awp_seq ?_
  refine awp_plain hN rfl ?_
  refine seq_run0 (stp_assign (.dat _) rfl) ?_
  refine awp_seq ?_
  refine awp_seq ?_
  refine awp_plain hN rfl ?_
  first | refine seq_run0 (stp_move (.dat _) rfl) ?_ | refine seq_run0 (stp_move (.ptr _ _) rfl) ?_ | refine seq_run0 (stp_move (.row _ _) rfl) ?_ | refine seq_run0 (stp_move (.rptr _ _ _ _ _) rfl) ?_ | refine seq_run0 (stp_move (.mp _) rfl) ?_
  first | refine seq_run0 (stp_len_lst tyU56 rfl) ?_ | refine seq_run1 (stp_len_row tyU56 rfl rfl) rfl ?_ | refine seq_run0 (stp_len_nil tyU56 rfl) ?_
  refine seq_run0 (stp_move (.dat _) rfl) ?_
  refine awp_block ?_
  refine awp_loop (fun k : Nat => [(0, .dat (vlst (xs.map instE))), (1, .dat (vfn fn cs)), (7, .dat (vint ((xs.map instE).length : Int))), (8, .dat (vint (k : Int)))]) (fun k : Nat => []) (fun k : Nat => k ≤ xs.length ∧ idxF p xs 0 = idxF p (xs.drop k) k) (fun k : Nat => xs.length - k) 0 ⟨by omega, rfl⟩ ⟨rfl, rfl, rfl, rfl, trivial⟩ trivial (fun _ => rfl) (fun k hI => ?_)
  obtain ⟨hk, hu⟩ := hI
  refine awp_seq ?_
  refine awp_plain hN rfl ?_
  refine seq_run0 (stp_lss rfl rfl) ?_
  refine awp_seq ?_
  refine awp_cond _ rfl (fun h1 => ?_) (fun h1 => ?_)
  · -- yes
    try simp at h1
    have hkl : k < xs.length := by omega
    have hat := inst_at hkl
    have hcall := hp _ (nth_mem (d := ([], 0)) hkl)
    have hdr := nth_drop (d := ([], 0)) hkl
    refine awp_skip ?_
    refine awp_seq ?_
    refine awp_block ?_
    refine awp_seq ?_
    refine awp_plain hN rfl ?_
    first | refine seq_run0 (stp_move (.dat _) rfl) ?_ | refine seq_run0 (stp_move (.ptr _ _) rfl) ?_ | refine seq_run0 (stp_move (.row _ _) rfl) ?_ | refine seq_run0 (stp_move (.rptr _ _ _ _ _) rfl) ?_ | refine seq_run0 (stp_move (.mp _) rfl) ?_
    first | refine seq_run0 (stp_assign (.dat _) rfl) ?_ | refine seq_run0 (stp_assign (.ptr _ _) rfl) ?_ | refine seq_run0 (stp_assign (.row _ _) rfl) ?_ | refine seq_run0 (stp_assign (.rptr _ _ _ _ _) rfl) ?_ | refine seq_run0 (stp_assign (.mp _) rfl) ?_
    refine awp_seq ?_
    refine awp_plain hN rfl ?_
    first | refine seq_run0 (stp_move (.dat _) rfl) ?_ | refine seq_run0 (stp_move (.ptr _ _) rfl) ?_ | refine seq_run0 (stp_move (.row _ _) rfl) ?_ | refine seq_run0 (stp_move (.rptr _ _ _ _ _) rfl) ?_ | refine seq_run0 (stp_move (.mp _) rfl) ?_
    first | refine seq_run0 (stp_move (.dat _) rfl) ?_ | refine seq_run0 (stp_move (.ptr _ _) rfl) ?_ | refine seq_run0 (stp_move (.row _ _) rfl) ?_ | refine seq_run0 (stp_move (.rptr _ _ _ _ _) rfl) ?_ | refine seq_run0 (stp_move (.mp _) rfl) ?_
    first | refine seq_run0 (stp_move (.dat _) rfl) ?_ | refine seq_run0 (stp_move (.ptr _ _) rfl) ?_ | refine seq_run0 (stp_move (.row _ _) rfl) ?_ | refine seq_run0 (stp_move (.rptr _ _ _ _ _) rfl) ?_ | refine seq_run0 (stp_move (.mp _) rfl) ?_
    first | refine seq_run0 (stp_idxE tyE56 rfl rfl (by omega) (by assumption)) ?_ | refine seq_run0 (stp_idxI tyE56 rfl rfl (by omega) (by assumption)) ?_ | refine seq_run1 (stp_idxR tyE56 rfl rfl (by first | rfl | omega | simp) (by first | omega | (simp; omega))) rfl ?_ | refine seq_run1 (stp_idxRI tyE56 rfl rfl (by first | rfl | omega | simp) (by first | omega | (simp; omega))) rfl ?_
    first | refine seq_run1 (stp_loadA tyS120 rfl rfl rfl) rfl ?_ | refine seq_run0 (stp_loadEA tyS120 rfl (by first | assumption | rfl) rfl) ?_ | refine seq_run1 (stp_loadRA tyS120 rfl (by first | rfl | omega | simp) (by first | assumption | exact List.getElem?_set_self (by simp; omega)) rfl) rfl ?_ | refine seq_run0 (stp_loadEP tyS120 rfl (by first | assumption | rfl) rfl) ?_
    refine seq_run0 (stp_callv hcall rfl ⟨.inl rfl, trivial⟩) ?_
    refine awp_cond _ rfl (fun h2 => ?_) (fun h2 => ?_)
    · -- yes
      try simp at h2
      refine awp_seq ?_
      refine awp_plain hN rfl ?_
      first | refine seq_run0 (stp_move (.dat _) rfl) ?_ | refine seq_run0 (stp_move (.ptr _ _) rfl) ?_ | refine seq_run0 (stp_move (.row _ _) rfl) ?_ | refine seq_run0 (stp_move (.rptr _ _ _ _ _) rfl) ?_ | refine seq_run0 (stp_move (.mp _) rfl) ?_
      first | refine seq_run0 (stp_assign (.dat _) rfl) ?_ | refine seq_run0 (stp_assign (.ptr _ _) rfl) ?_ | refine seq_run0 (stp_assign (.row _ _) rfl) ?_ | refine seq_run0 (stp_assign (.rptr _ _ _ _ _) rfl) ?_ | refine seq_run0 (stp_assign (.mp _) rfl) ?_
      refine awp_ret ?_
      exact ⟨trivial, .inl (congrArg vint (by rw [hu, hdr, idxF, if_pos (by simp_all)])), trivial⟩
    · -- no
      try simp at h2
      refine awp_skip ?_
      refine awp_plain hN rfl ?_
      refine seq_run0 (stp_add rfl rfl (by omega)) ?_
      first | refine seq_run0 (stp_move (.dat _) rfl) ?_ | refine seq_run0 (stp_move (.ptr _ _) rfl) ?_ | refine seq_run0 (stp_move (.row _ _) rfl) ?_ | refine seq_run0 (stp_move (.rptr _ _ _ _ _) rfl) ?_ | refine seq_run0 (stp_move (.mp _) rfl) ?_
      exact ⟨k + 1, ⟨by omega, by rw [hu, hdr, idxF, if_neg (by simp_all)]; rfl⟩, by omega, ⟨rfl, rfl, rfl, rfl, trivial⟩, trivial⟩
  · -- no
    try simp at h1
    refine awp_exit ?_
    refine awp_seq ?_
    refine awp_plain hN rfl ?_
    refine seq_run0 (stp_assign (.dat _) rfl) ?_
    refine awp_ret ?_
    exact ⟨trivial, .inl (congrArg vint (by rw [hu, List.drop_eq_nil_of_le (by omega)]; rfl)), trivial⟩
theorem k_idxInst (xs : List Inst) (hl : xs.length ≤ 1000) (fn : Nat) (cs : List V) (p : Inst → Bool) (hp : ∀ x, x ∈ xs → Fn Try.prog fn ([vagg (instE x)] ++ cs) (resOf [vbool (p x)]))  : Fn Try.prog 121 [vlst (xs.map instE), vfn fn cs] (resOf [vint (idxF p xs 0)]) := by
  have hle := inst_len xs
  have hln : (xs.map instE).length = xs.length := by simp
  refine ⟨by kernel_rfl, pure_of (us := [vint (idxF p xs 0)]) Try.func121 rfl rfl rfl rfl fun X hN => ?_⟩
  refine awp_seq ?_
  refine awp_plain hN rfl ?_
  refine seq_run0 (stp_assign (.dat _) rfl) ?_
  refine awp_seq ?_
  refine awp_seq ?_
  refine awp_plain hN rfl ?_
  first | refine seq_run0 (stp_move (.dat _) rfl) ?_ | refine seq_run0 (stp_move (.ptr _ _) rfl) ?_ | refine seq_run0 (stp_move (.row _ _) rfl) ?_ | refine seq_run0 (stp_move (.rptr _ _ _ _ _) rfl) ?_ | refine seq_run0 (stp_move (.mp _) rfl) ?_
  first | refine seq_run0 (stp_len_lst tyU48 rfl) ?_ | refine seq_run1 (stp_len_row tyU48 rfl rfl) rfl ?_ | refine seq_run0 (stp_len_nil tyU48 rfl) ?_
  refine seq_run0 (stp_move (.dat _) rfl) ?_
  refine awp_block ?_
  refine awp_loop (fun k : Nat => [(0, .dat (vlst (xs.map instE))), (1, .dat (vfn fn cs)), (7, .dat (vint ((xs.map instE).length : Int))), (8, .dat (vint (k : Int)))]) (fun k : Nat => []) (fun k : Nat => k ≤ xs.length ∧ idxF p xs 0 = idxF p (xs.drop k) k) (fun k : Nat => xs.length - k) 0 ⟨by omega, rfl⟩ ⟨rfl, rfl, rfl, rfl, trivial⟩ trivial (fun _ => rfl) (fun k hI => ?_)
  obtain ⟨hk, hu⟩ := hI
  refine awp_seq ?_
  refine awp_plain hN rfl ?_
  refine seq_run0 (stp_lss rfl rfl) ?_
  refine awp_seq ?_
  refine awp_cond _ rfl (fun h1 => ?_) (fun h1 => ?_)
  · -- yes
    try simp at h1
    have hkl : k < xs.length := by omega
    have hat := inst_at hkl
    have hcall := hp _ (nth_mem (d := ([], 0)) hkl)
    have hdr := nth_drop (d := ([], 0)) hkl
    refine awp_skip ?_
    refine awp_seq ?_
    refine awp_block ?_
    refine awp_seq ?_
    refine awp_plain hN rfl ?_
    first | refine seq_run0 (stp_move (.dat _) rfl) ?_ | refine seq_run0 (stp_move (.ptr _ _) rfl) ?_ | refine seq_run0 (stp_move (.row _ _) rfl) ?_ | refine seq_run0 (stp_move (.rptr _ _ _ _ _) rfl) ?_ | refine seq_run0 (stp_move (.mp _) rfl) ?_
    first | refine seq_run0 (stp_assign (.dat _) rfl) ?_ | refine seq_run0 (stp_assign (.ptr _ _) rfl) ?_ | refine seq_run0 (stp_assign (.row _ _) rfl) ?_ | refine seq_run0 (stp_assign (.rptr _ _ _ _ _) rfl) ?_ | refine seq_run0 (stp_assign (.mp _) rfl) ?_
    refine awp_seq ?_
    refine awp_plain hN rfl ?_
    first | refine seq_run0 (stp_move (.dat _) rfl) ?_ | refine seq_run0 (stp_move (.ptr _ _) rfl) ?_ | refine seq_run0 (stp_move (.row _ _) rfl) ?_ | refine seq_run0 (stp_move (.rptr _ _ _ _ _) rfl) ?_ | refine seq_run0 (stp_move (.mp _) rfl) ?_
    first | refine seq_run0 (stp_move (.dat _) rfl) ?_ | refine seq_run0 (stp_move (.ptr _ _) rfl) ?_ | refine seq_run0 (stp_move (.row _ _) rfl) ?_ | refine seq_run0 (stp_move (.rptr _ _ _ _ _) rfl) ?_ | refine seq_run0 (stp_move (.mp _) rfl) ?_
    first | refine seq_run0 (stp_move (.dat _) rfl) ?_ | refine seq_run0 (stp_move (.ptr _ _) rfl) ?_ | refine seq_run0 (stp_move (.row _ _) rfl) ?_ | refine seq_run0 (stp_move (.rptr _ _ _ _ _) rfl) ?_ | refine seq_run0 (stp_move (.mp _) rfl) ?_
    first | refine seq_run0 (stp_idxE tyE48 rfl rfl (by omega) (by assumption)) ?_ | refine seq_run0 (stp_idxI tyE48 rfl rfl (by omega) (by assumption)) ?_ | refine seq_run1 (stp_idxR tyE48 rfl rfl (by first | rfl | omega | simp) (by first | omega | (simp; omega))) rfl ?_ | refine seq_run1 (stp_idxRI tyE48 rfl rfl (by first | rfl | omega | simp) (by first | omega | (simp; omega))) rfl ?_
    first | refine seq_run1 (stp_loadA tyS114 rfl rfl rfl) rfl ?_ | refine seq_run0 (stp_loadEA tyS114 rfl (by first | assumption | rfl) rfl) ?_ | refine seq_run1 (stp_loadRA tyS114 rfl (by first | rfl | omega | simp) (by first | assumption | exact List.getElem?_set_self (by simp; omega)) rfl) rfl ?_ | refine seq_run0 (stp_loadEP tyS114 rfl (by first | assumption | rfl) rfl) ?_
    refine seq_run0 (stp_callv hcall rfl ⟨.inl rfl, trivial⟩) ?_
    refine awp_cond _ rfl (fun h2 => ?_) (fun h2 => ?_)
    · -- yes
      try simp at h2
      refine awp_seq ?_
      refine awp_plain hN rfl ?_
      first | refine seq_run0 (stp_move (.dat _) rfl) ?_ | refine seq_run0 (stp_move (.ptr _ _) rfl) ?_ | refine seq_run0 (stp_move (.row _ _) rfl) ?_ | refine seq_run0 (stp_move (.rptr _ _ _ _ _) rfl) ?_ | refine seq_run0 (stp_move (.mp _) rfl) ?_
      first | refine seq_run0 (stp_assign (.dat _) rfl) ?_ | refine seq_run0 (stp_assign (.ptr _ _) rfl) ?_ | refine seq_run0 (stp_assign (.row _ _) rfl) ?_ | refine seq_run0 (stp_assign (.rptr _ _ _ _ _) rfl) ?_ | refine seq_run0 (stp_assign (.mp _) rfl) ?_
      refine awp_ret ?_
      exact ⟨trivial, .inl (congrArg vint (by rw [hu, hdr, idxF, if_pos (by simp_all)])), trivial⟩
    · -- no
      try simp at h2
      refine awp_skip ?_
      refine awp_plain hN rfl ?_
      refine seq_run0 (stp_add rfl rfl (by omega)) ?_
      first | refine seq_run0 (stp_move (.dat _) rfl) ?_ | refine seq_run0 (stp_move (.ptr _ _) rfl) ?_ | refine seq_run0 (stp_move (.row _ _) rfl) ?_ | refine seq_run0 (stp_move (.rptr _ _ _ _ _) rfl) ?_ | refine seq_run0 (stp_move (.mp _) rfl) ?_
      exact ⟨k + 1, ⟨by omega, by rw [hu, hdr, idxF, if_neg (by simp_all)]; rfl⟩, by omega, ⟨rfl, rfl, rfl, rfl, trivial⟩, trivial⟩
  · -- no
    try simp at h1
    refine awp_exit ?_
    refine awp_seq ?_
    refine awp_plain hN rfl ?_
    refine seq_run0 (stp_assign (.dat _) rfl) ?_
    refine awp_ret ?_
    exact ⟨trivial, .inl (congrArg vint (by rw [hu, List.drop_eq_nil_of_le (by omega)]; rfl)), trivial⟩
theorem k_conCall (xs : List Inst) (hl : xs.length ≤ 1000) (fn : Nat) (cs : List V) (p : Inst → Bool) (hp : ∀ x, x ∈ xs → Fn Try.prog fn ([vagg (instE x)] ++ cs) (resOf [vbool (p x)]))  : Fn Try.prog 94 [vlst (xs.map instE), vfn fn cs] (resOf [vbool (xs.any p)]) := by
  refine ⟨by kernel_rfl, pure_of (us := [vbool (xs.any p)]) Try.func94 rfl rfl rfl rfl fun X hN => ?_⟩
  refine awp_seq ?_
  refine awp_plain hN rfl ?_
  refine seq_run0 (stp_assign (.dat _) rfl) ?_
  refine awp_seq ?_
  refine awp_plain hN rfl ?_
  first | refine seq_run0 (stp_move (.dat _) rfl) ?_ | refine seq_run0 (stp_move (.ptr _ _) rfl) ?_ | refine seq_run0 (stp_move (.row _ _) rfl) ?_ | refine seq_run0 (stp_move (.rptr _ _ _ _ _) rfl) ?_ | refine seq_run0 (stp_move (.mp _) rfl) ?_
  first | refine seq_run0 (stp_move (.dat _) rfl) ?_ | refine seq_run0 (stp_move (.ptr _ _) rfl) ?_ | refine seq_run0 (stp_move (.row _ _) rfl) ?_ | refine seq_run0 (stp_move (.rptr _ _ _ _ _) rfl) ?_ | refine seq_run0 (stp_move (.mp _) rfl) ?_
  refine seq_run0 (stp_call (k_idxCall xs hl fn cs p hp) ⟨.inl rfl, .inl rfl, trivial⟩) ?_
  refine seq_run0 (stp_geq rfl rfl) ?_
  first | refine seq_run0 (stp_assign (.dat _) rfl) ?_ | refine seq_run0 (stp_assign (.ptr _ _) rfl) ?_ | refine seq_run0 (stp_assign (.row _ _) rfl) ?_ | refine seq_run0 (stp_assign (.rptr _ _ _ _ _) rfl) ?_ | refine seq_run0 (stp_assign (.mp _) rfl) ?_
  refine awp_ret ?_
  exact ⟨trivial, .inl (congrArg vbool (by first | exact idxF_any p xs | (rw [← idxF_any p xs]; simp))), trivial⟩
theorem k_cf1 (x y : Inst)  : Fn Try.prog 95 [vagg (instE x), vcell [instE y] 0 0] (resOf [vbool (decide (x.1 = y.1))]) := by
  refine ⟨by kernel_rfl, pure_of (us := [vbool (decide (x.1 = y.1))]) Try.func95 rfl rfl rfl rfl fun X hN => ?_⟩
  refine awp_seq ?_
  refine awp_plain hN rfl ?_
  refine seq_run2 (stp_boxA 1 rfl) rfl ?_
  refine seq_run0 (stp_assign (.dat _) rfl) ?_
  refine awp_seq ?_
  refine awp_plain hN rfl ?_
  first | refine seq_run0 (stp_fldP tyF120_0 rfl) ?_ | refine seq_run0 (stp_fldE tyF120_0 rfl) ?_ | refine seq_run0 (stp_fldR tyF120_0 rfl) ?_
  first | refine seq_run1 (stp_load1 tyS9 rfl rfl) rfl ?_ | refine seq_run0 (stp_loadE1 tyS9 rfl (by first | assumption | rfl) rfl) ?_ | refine seq_run1 (stp_loadR1 tyS9 rfl (by first | rfl | omega | simp) (by first | assumption | exact List.getElem?_set_self (by simp; omega)) rfl) rfl ?_
  first | refine seq_run0 (stp_fldP tyF120_0 rfl) ?_ | refine seq_run0 (stp_fldE tyF120_0 rfl) ?_ | refine seq_run0 (stp_fldR tyF120_0 rfl) ?_
  first | refine seq_run1 (stp_load1 tyS9 rfl rfl) rfl ?_ | refine seq_run0 (stp_loadE1 tyS9 rfl (by first | assumption | rfl) rfl) ?_ | refine seq_run1 (stp_loadR1 tyS9 rfl (by first | rfl | omega | simp) (by first | assumption | exact List.getElem?_set_self (by simp; omega)) rfl) rfl ?_
  refine seq_run0 (stp_seql rfl rfl) ?_
  first | refine seq_run0 (stp_assign (.dat _) rfl) ?_ | refine seq_run0 (stp_assign (.ptr _ _) rfl) ?_ | refine seq_run0 (stp_assign (.row _ _) rfl) ?_ | refine seq_run0 (stp_assign (.rptr _ _ _ _ _) rfl) ?_ | refine seq_run0 (stp_assign (.mp _) rfl) ?_
  refine awp_ret ?_
  exact ⟨trivial, .inl rfl, trivial⟩
theorem k_ia1 (x : Inst) (l : List UInt8)  : Fn Try.prog 122 [vagg (instE x), vcell [[vstr l]] 0 0] (resOf [vbool (decide (x.1 = l))]) := by
  refine ⟨by kernel_rfl, pure_of (us := [vbool (decide (x.1 = l))]) Try.func122 rfl rfl rfl rfl fun X hN => ?_⟩
  refine awp_seq ?_
  refine awp_plain hN rfl ?_
  refine seq_run2 (stp_boxA 1 rfl) rfl ?_
  refine seq_run0 (stp_assign (.dat _) rfl) ?_
  refine awp_seq ?_
  refine awp_plain hN rfl ?_
  first | refine seq_run0 (stp_fldP tyF114_0 rfl) ?_ | refine seq_run0 (stp_fldE tyF114_0 rfl) ?_ | refine seq_run0 (stp_fldR tyF114_0 rfl) ?_
  first | refine seq_run1 (stp_load1 tyS9 rfl rfl) rfl ?_ | refine seq_run0 (stp_loadE1 tyS9 rfl (by first | assumption | rfl) rfl) ?_ | refine seq_run1 (stp_loadR1 tyS9 rfl (by first | rfl | omega | simp) (by first | assumption | exact List.getElem?_set_self (by simp; omega)) rfl) rfl ?_
  first | refine seq_run1 (stp_load1 tyS9 rfl rfl) rfl ?_ | refine seq_run0 (stp_loadE1 tyS9 rfl (by first | assumption | rfl) rfl) ?_ | refine seq_run1 (stp_loadR1 tyS9 rfl (by first | rfl | omega | simp) (by first | assumption | exact List.getElem?_set_self (by simp; omega)) rfl) rfl ?_
  refine seq_run0 (stp_seql rfl rfl) ?_
  first | refine seq_run0 (stp_assign (.dat _) rfl) ?_ | refine seq_run0 (stp_assign (.ptr _ _) rfl) ?_ | refine seq_run0 (stp_assign (.row _ _) rfl) ?_ | refine seq_run0 (stp_assign (.rptr _ _ _ _ _) rfl) ?_ | refine seq_run0 (stp_assign (.mp _) rfl) ?_
  refine awp_ret ?_
  exact ⟨trivial, .inl rfl, trivial⟩
theorem k_gateref2_InstanceAt (xs : List Inst) (l : List UInt8) (hl : xs.length ≤ 1000)  : Fn Try.prog 90 [vlst (xs.map instE), vstr l] (resOf [vint (idxF (fun x => decide (x.1 = l)) xs 0)]) := by
  refine ⟨by kernel_rfl, pure_of (us := [vint (idxF (fun x => decide (x.1 = l)) xs 0)]) Try.func90 rfl rfl rfl rfl fun X hN => ?_⟩
  refine awp_seq ?_
  refine awp_plain hN rfl ?_
  first | refine seq_run2 (stp_box1 1 rfl rfl) rfl ?_ | refine seq_run2 (stp_boxS 1 rfl rfl) rfl ?_
  refine seq_run0 (stp_assign (.dat _) rfl) ?_
  refine awp_frzB 1 [vstr l] rfl rfl ?_
  refine awp_seq ?_
  refine awp_plain hN rfl ?_
  first | refine seq_run0 (stp_move (.dat _) rfl) ?_ | refine seq_run0 (stp_move (.ptr _ _) rfl) ?_ | refine seq_run0 (stp_move (.row _ _) rfl) ?_ | refine seq_run0 (stp_move (.rptr _ _ _ _ _) rfl) ?_ | refine seq_run0 (stp_move (.mp _) rfl) ?_
  refine seq_run0 (stp_mkfn (us := [_]) ⟨rfl, trivial⟩) ?_
  refine seq_run0 (stp_call (k_idxInst xs hl _ [vcell [[vstr l]] 0 0] (fun x => decide (x.1 = l)) (fun x _ => k_ia1 x l)) ⟨.inl rfl, .inl rfl, trivial⟩) ?_
  first | refine seq_run0 (stp_assign (.dat _) rfl) ?_ | refine seq_run0 (stp_assign (.ptr _ _) rfl) ?_ | refine seq_run0 (stp_assign (.row _ _) rfl) ?_ | refine seq_run0 (stp_assign (.rptr _ _ _ _ _) rfl) ?_ | refine seq_run0 (stp_assign (.mp _) rfl) ?_
  refine awp_ret ?_
  exact ⟨trivial, .inl rfl, trivial⟩
theorem k_gateref2_CallsFault (xs : List Inst) (hok : CalOK xs)  : Fn Try.prog 31 [vlst (xs.map instE)] (resOf [vint (caF xs)]) := by
  have hle := inst_len xs
  have hln : (xs.map instE).length = xs.length := by simp
  have hlen := hok.len
  refine ⟨by kernel_rfl, pure_of (us := [vint (caF xs)]) Try.func31 rfl rfl rfl rfl fun X hN => ?_⟩
  refine awp_seq ?_
  refine awp_plain hN rfl ?_
  refine seq_run0 (stp_assign (.dat _) rfl) ?_
  refine awp_seq ?_
  refine awp_seq ?_
  refine awp_plain hN rfl ?_
  first | refine seq_run0 (stp_move (.dat _) rfl) ?_ | refine seq_run0 (stp_move (.ptr _ _) rfl) ?_ | refine seq_run0 (stp_move (.row _ _) rfl) ?_ | refine seq_run0 (stp_move (.rptr _ _ _ _ _) rfl) ?_ | refine seq_run0 (stp_move (.mp _) rfl) ?_
  first | refine seq_run0 (stp_len_lst tyU56 rfl) ?_ | refine seq_run1 (stp_len_row tyU56 rfl rfl) rfl ?_ | refine seq_run0 (stp_len_nil tyU56 rfl) ?_
  refine seq_run0 (stp_gtr rfl rfl) ?_
  refine awp_cond _ rfl (fun h1 => ?_) (fun h1 => ?_)
  · -- yes
    try simp at h1
    refine awp_seq ?_
    refine awp_plain hN rfl ?_
    refine seq_run0 (stp_assign (.dat _) rfl) ?_
    refine awp_ret ?_
    exact ⟨trivial, .inl (congrArg vint (by unfold caF; rw [if_pos (by omega)])), trivial⟩
  · -- no
    try simp at h1
    refine awp_skip ?_
    refine awp_seq ?_
    refine awp_seq ?_
    refine awp_plain hN rfl ?_
    first | refine seq_run0 (stp_move (.dat _) rfl) ?_ | refine seq_run0 (stp_move (.ptr _ _) rfl) ?_ | refine seq_run0 (stp_move (.row _ _) rfl) ?_ | refine seq_run0 (stp_move (.rptr _ _ _ _ _) rfl) ?_ | refine seq_run0 (stp_move (.mp _) rfl) ?_
    first | refine seq_run0 (stp_len_lst tyU56 rfl) ?_ | refine seq_run1 (stp_len_row tyU56 rfl rfl) rfl ?_ | refine seq_run0 (stp_len_nil tyU56 rfl) ?_
    refine seq_run0 (stp_move (.dat _) rfl) ?_
    refine awp_block ?_
    have hci : caF xs = firstErr (caAt xs) xs.length := by unfold caF; rw [if_neg (by omega)]
    refine awp_loop (fun k : Nat => [(0, .dat (vlst (xs.map instE))), (8, .dat (vlst (xs.map instE))), (9, .dat (vint ((xs.map instE).length : Int))), (10, .dat (vint (k : Int)))]) (fun k : Nat => []) (fun k : Nat => k ≤ xs.length ∧ firstErr (caAt xs) k = 0) (fun k : Nat => xs.length - k) 0 ⟨by omega, rfl⟩ ⟨rfl, rfl, rfl, rfl, trivial⟩ trivial (fun _ => rfl) (fun k hI => ?_)
    obtain ⟨hk, hu⟩ := hI
    refine awp_seq ?_
    refine awp_plain hN rfl ?_
    refine seq_run0 (stp_lss rfl rfl) ?_
    refine awp_seq ?_
    refine awp_cond _ rfl (fun h2 => ?_) (fun h2 => ?_)
    · -- yes
      try simp at h2
      have hkl : k < xs.length := by omega
      have hat := inst_at hkl
      have hrg := hok.ok _ (nth_mem (d := ([], 0)) hkl)
      have hsm : (nth ([], 0) xs k).1.length ≤ 1000000 := by omega
      have hcon : Fn Try.prog 94 [vlst (((xs.map instE).drop 0).take (k - 0)), vfn 95 [vcell [instE (nth ([], 0) xs k)] 0 0]] (resOf [vbool (seenB xs k (ky xs k))]) := by
        have := k_conCall (xs.take k) (by rw [List.length_take]; omega) 95 [vcell [instE (nth ([], 0) xs k)] 0 0] (fun x => decide (x.1 = ky xs k)) (fun x _ => k_cf1 x (nth ([], 0) xs k))
        rw [List.map_take] at this
        exact this
      refine awp_skip ?_
      refine awp_seq ?_
      refine awp_block ?_
      refine awp_seq ?_
      refine awp_plain hN rfl ?_
      first | refine seq_run0 (stp_move (.dat _) rfl) ?_ | refine seq_run0 (stp_move (.ptr _ _) rfl) ?_ | refine seq_run0 (stp_move (.row _ _) rfl) ?_ | refine seq_run0 (stp_move (.rptr _ _ _ _ _) rfl) ?_ | refine seq_run0 (stp_move (.mp _) rfl) ?_
      first | refine seq_run0 (stp_idxE tyE56 rfl rfl (by omega) (by assumption)) ?_ | refine seq_run0 (stp_idxI tyE56 rfl rfl (by omega) (by assumption)) ?_ | refine seq_run1 (stp_idxR tyE56 rfl rfl (by first | rfl | omega | simp) (by first | omega | (simp; omega))) rfl ?_ | refine seq_run1 (stp_idxRI tyE56 rfl rfl (by first | rfl | omega | simp) (by first | omega | (simp; omega))) rfl ?_
      first | refine seq_run1 (stp_loadA tyS120 rfl rfl rfl) rfl ?_ | refine seq_run0 (stp_loadEA tyS120 rfl (by first | assumption | rfl) rfl) ?_ | refine seq_run1 (stp_loadRA tyS120 rfl (by first | rfl | omega | simp) (by first | assumption | exact List.getElem?_set_self (by simp; omega)) rfl) rfl ?_ | refine seq_run0 (stp_loadEP tyS120 rfl (by first | assumption | rfl) rfl) ?_
      refine seq_run2 (stp_alloc 1 tyZ120 rfl) rfl ?_
      first | refine seq_run0 (stp_assign (.dat _) rfl) ?_ | refine seq_run0 (stp_assign (.ptr _ _) rfl) ?_ | refine seq_run0 (stp_assign (.row _ _) rfl) ?_ | refine seq_run0 (stp_assign (.rptr _ _ _ _ _) rfl) ?_ | refine seq_run0 (stp_assign (.mp _) rfl) ?_
      first | refine seq_run2 (stp_storeW tyS120 rfl rfl rfl rfl) rfl ?_ | refine seq_run2 (stp_storeA tyS120 rfl rfl rfl rfl) rfl ?_
      refine awp_block ?_
      refine awp_seq ?_
      refine awp_plain hN rfl ?_
      first | refine seq_run0 (stp_fldP tyF120_0 rfl) ?_ | refine seq_run0 (stp_fldE tyF120_0 rfl) ?_ | refine seq_run0 (stp_fldR tyF120_0 rfl) ?_
      first | refine seq_run1 (stp_load1 tyS9 rfl rfl) rfl ?_ | refine seq_run0 (stp_loadE1 tyS9 rfl (by first | assumption | rfl) rfl) ?_ | refine seq_run1 (stp_loadR1 tyS9 rfl (by first | rfl | omega | simp) (by first | assumption | exact List.getElem?_set_self (by simp; omega)) rfl) rfl ?_
      refine seq_run0 (stp_call (k_gateref2_Key _ hsm) ⟨.inl rfl, trivial⟩) ?_
      refine seq_run0 (stp_not rfl) ?_
      first | refine seq_run0 (stp_assign (.dat _) rfl) ?_ | refine seq_run0 (stp_assign (.ptr _ _) rfl) ?_ | refine seq_run0 (stp_assign (.row _ _) rfl) ?_ | refine seq_run0 (stp_assign (.rptr _ _ _ _ _) rfl) ?_ | refine seq_run0 (stp_assign (.mp _) rfl) ?_
      refine awp_cond _ rfl (fun h3 => ?_) (fun h3 => ?_)
      · -- yes
        try simp at h3
        refine awp_seq ?_
        refine awp_plain hN rfl ?_
        refine seq_run0 (stp_assign (.dat _) rfl) ?_
        refine awp_ret ?_
        exact ⟨trivial, .inl (congrArg vint (by rw [hci]; exact fe_stop hu hkl (by unfold caAt; rw [if_pos (by simp_all)]) (by decide))), trivial⟩
      · -- no
        try simp at h3
        refine awp_frzB 1 (instE (nth ([], 0) xs k)) rfl rfl ?_
        refine awp_seq ?_
        refine awp_plain hN rfl ?_
        first | refine seq_run0 (stp_move (.dat _) rfl) ?_ | refine seq_run0 (stp_move (.ptr _ _) rfl) ?_ | refine seq_run0 (stp_move (.row _ _) rfl) ?_ | refine seq_run0 (stp_move (.rptr _ _ _ _ _) rfl) ?_ | refine seq_run0 (stp_move (.mp _) rfl) ?_
        first | refine seq_run0 (stp_move (.dat _) rfl) ?_ | refine seq_run0 (stp_move (.ptr _ _) rfl) ?_ | refine seq_run0 (stp_move (.row _ _) rfl) ?_ | refine seq_run0 (stp_move (.rptr _ _ _ _ _) rfl) ?_ | refine seq_run0 (stp_move (.mp _) rfl) ?_
        refine seq_run0 (stp_subL tyE56 rfl (by assumption) rfl rfl (by omega) (by omega)) ?_
        refine seq_run0 (stp_mkfn (us := [_]) ⟨rfl, trivial⟩) ?_
        refine seq_run0 (stp_call (hcon) ⟨.inl rfl, .inl rfl, trivial⟩) ?_
        first | refine seq_run0 (stp_assign (.dat _) rfl) ?_ | refine seq_run0 (stp_assign (.ptr _ _) rfl) ?_ | refine seq_run0 (stp_assign (.row _ _) rfl) ?_ | refine seq_run0 (stp_assign (.rptr _ _ _ _ _) rfl) ?_ | refine seq_run0 (stp_assign (.mp _) rfl) ?_
        refine awp_cond _ rfl (fun h4 => ?_) (fun h4 => ?_)
        · -- yes
          try simp at h4
          refine awp_seq ?_
          refine awp_plain hN rfl ?_
          refine seq_run0 (stp_assign (.dat _) rfl) ?_
          refine awp_ret ?_
          exact ⟨trivial, .inl (congrArg vint (by rw [hci]; exact fe_stop hu hkl (by unfold caAt; rw [if_neg (by simp_all), if_pos (by simp_all)]) (by decide))), trivial⟩
        · -- no
          try simp at h4
          refine awp_seq ?_
          refine awp_plain hN rfl ?_
          first | refine seq_run0 (stp_fldP tyF120_1 rfl) ?_ | refine seq_run0 (stp_fldE tyF120_1 rfl) ?_ | refine seq_run0 (stp_fldR tyF120_1 rfl) ?_
          first | refine seq_run1 (stp_load1 tyS3 rfl rfl) rfl ?_ | refine seq_run0 (stp_loadE1 tyS3 rfl (by first | assumption | rfl) rfl) ?_ | refine seq_run1 (stp_loadR1 tyS3 rfl (by first | rfl | omega | simp) (by first | assumption | exact List.getElem?_set_self (by simp; omega)) rfl) rfl ?_
          refine seq_run0 (stp_call (k_gateref2_Moment _) ⟨.inl rfl, trivial⟩) ?_
          refine seq_run0 (stp_not rfl) ?_
          first | refine seq_run0 (stp_assign (.dat _) rfl) ?_ | refine seq_run0 (stp_assign (.ptr _ _) rfl) ?_ | refine seq_run0 (stp_assign (.row _ _) rfl) ?_ | refine seq_run0 (stp_assign (.rptr _ _ _ _ _) rfl) ?_ | refine seq_run0 (stp_assign (.mp _) rfl) ?_
          refine awp_cond _ rfl (fun h5 => ?_) (fun h5 => ?_)
          · -- yes
            try simp at h5
            refine awp_seq ?_
            refine awp_plain hN rfl ?_
            refine seq_run0 (stp_assign (.dat _) rfl) ?_
            refine awp_ret ?_
            exact ⟨trivial, .inl (congrArg vint (by rw [hci]; exact fe_stop hu hkl (by unfold caAt; rw [if_neg (by simp_all), if_neg (by simp_all), if_pos (by simp_all)]) (by decide))), trivial⟩
          · -- no
            try simp at h5
            refine awp_rjD [(31, .dat (vbool (lateB xs k)))] mixed hN rfl rfl ?_ ?_
            · -- region 12
              first | refine seq_run0 (stp_move (.dat _) rfl) ?_ | refine seq_run0 (stp_move (.ptr _ _) rfl) ?_ | refine seq_run0 (stp_move (.row _ _) rfl) ?_ | refine seq_run0 (stp_move (.rptr _ _ _ _ _) rfl) ?_ | refine seq_run0 (stp_move (.mp _) rfl) ?_
              refine seq_run0 (stp_gtr rfl rfl) ?_
              first | refine seq_run0 (stp_move (.dat _) rfl) ?_ | refine seq_run0 (stp_move (.ptr _ _) rfl) ?_ | refine seq_run0 (stp_move (.row _ _) rfl) ?_ | refine seq_run0 (stp_move (.rptr _ _ _ _ _) rfl) ?_ | refine seq_run0 (stp_move (.mp _) rfl) ?_
              refine seq_split (j := 2) rfl rfl (fun h6 => ?_) (fun h6 => ?_) rfl
              · -- guard (2, True): runs
                have qh6 := h6
                try simp at qh6
                have hkp : (((k : Int) - 1).toNat : Int) = (k : Int) - 1 := by omega
                have hat2 := inst_at (l := xs) (k := ((k : Int) - 1).toNat) (by omega)
                first | refine seq_g0 rfl rfl h6 (stp_fldP tyF120_1 rfl) ?_ | refine seq_g0 rfl rfl h6 (stp_fldE tyF120_1 rfl) ?_ | refine seq_g0 rfl rfl h6 (stp_fldR tyF120_1 rfl) ?_
                first | refine seq_g1 rfl rfl h6 (stp_load1 tyS3 rfl rfl) rfl ?_ | refine seq_g0 rfl rfl h6 (stp_loadE1 tyS3 rfl (by first | assumption | rfl) rfl) ?_ | refine seq_g1 rfl rfl h6 (stp_loadR1 tyS3 rfl (by first | rfl | omega | simp) (by first | assumption | exact List.getElem?_set_self (by simp; omega)) rfl) rfl ?_
                first | refine seq_g0 rfl rfl h6 (stp_move (.dat _) rfl) ?_ | refine seq_g0 rfl rfl h6 (stp_move (.ptr _ _) rfl) ?_ | refine seq_g0 rfl rfl h6 (stp_move (.row _ _) rfl) ?_ | refine seq_g0 rfl rfl h6 (stp_move (.rptr _ _ _ _ _) rfl) ?_ | refine seq_g0 rfl rfl h6 (stp_move (.mp _) rfl) ?_
                first | refine seq_g0 rfl rfl h6 (stp_move (.dat _) rfl) ?_ | refine seq_g0 rfl rfl h6 (stp_move (.ptr _ _) rfl) ?_ | refine seq_g0 rfl rfl h6 (stp_move (.row _ _) rfl) ?_ | refine seq_g0 rfl rfl h6 (stp_move (.rptr _ _ _ _ _) rfl) ?_ | refine seq_g0 rfl rfl h6 (stp_move (.mp _) rfl) ?_
                refine seq_g0 rfl rfl h6 (stp_sub rfl rfl (by omega)) ?_
                first | refine seq_g0 rfl rfl h6 (stp_idxE tyE56 rfl rfl (by omega) (by assumption)) ?_ | refine seq_g0 rfl rfl h6 (stp_idxI tyE56 rfl rfl (by omega) (by assumption)) ?_ | refine seq_g1 rfl rfl h6 (stp_idxR tyE56 rfl rfl (by first | rfl | omega | simp) (by first | omega | (simp; omega))) rfl ?_ | refine seq_g1 rfl rfl h6 (stp_idxRI tyE56 rfl rfl (by first | rfl | omega | simp) (by first | omega | (simp; omega))) rfl ?_
                first | refine seq_g0 rfl rfl h6 (stp_fldP tyF120_1 rfl) ?_ | refine seq_g0 rfl rfl h6 (stp_fldE tyF120_1 rfl) ?_ | refine seq_g0 rfl rfl h6 (stp_fldR tyF120_1 rfl) ?_
                first | refine seq_g1 rfl rfl h6 (stp_load1 tyS3 rfl rfl) rfl ?_ | refine seq_g0 rfl rfl h6 (stp_loadE1 tyS3 rfl (by first | assumption | rfl) rfl) ?_ | refine seq_g1 rfl rfl h6 (stp_loadR1 tyS3 rfl (by first | rfl | omega | simp) (by first | assumption | exact List.getElem?_set_self (by simp; omega)) rfl) rfl ?_
                refine seq_g0 rfl rfl h6 (stp_lss rfl rfl) ?_
                refine seq_run0 (stp_pick_t rfl h6 rfl) ?_
                first | refine seq_run0 (stp_assign (.dat _) rfl) ?_ | refine seq_run0 (stp_assign (.ptr _ _) rfl) ?_ | refine seq_run0 (stp_assign (.row _ _) rfl) ?_ | refine seq_run0 (stp_assign (.rptr _ _ _ _ _) rfl) ?_ | refine seq_run0 (stp_assign (.mp _) rfl) ?_
                exact ⟨rfl, rfl, jb (by unfold lateB; simp_all), trivial⟩
              · -- guard (2, True): is left out
                have qh6 := h6
                try simp at qh6
                refine seq_skip rfl rfl h6 ?_
                refine seq_skip rfl rfl h6 ?_
                refine seq_skip rfl rfl h6 ?_
                refine seq_skip rfl rfl h6 ?_
                refine seq_skip rfl rfl h6 ?_
                refine seq_skip rfl rfl h6 ?_
                refine seq_skip rfl rfl h6 ?_
                refine seq_skip rfl rfl h6 ?_
                refine seq_skip rfl rfl h6 ?_
                refine seq_run0 (stp_pick_f' rfl h6 rfl) ?_
                first | refine seq_run0 (stp_assign (.dat _) rfl) ?_ | refine seq_run0 (stp_assign (.ptr _ _) rfl) ?_ | refine seq_run0 (stp_assign (.row _ _) rfl) ?_ | refine seq_run0 (stp_assign (.rptr _ _ _ _ _) rfl) ?_ | refine seq_run0 (stp_assign (.mp _) rfl) ?_
                exact ⟨rfl, rfl, jb (by unfold lateB; simp_all), trivial⟩
            · -- behind region 12
              refine awp_cond _ rfl (fun h7 => ?_) (fun h7 => ?_)
              · -- yes
                try simp at h7
                refine awp_seq ?_
                refine awp_plain hN rfl ?_
                refine seq_run0 (stp_assign (.dat _) rfl) ?_
                refine awp_ret ?_
                exact ⟨trivial, .inl (congrArg vint (by rw [hci]; exact fe_stop hu hkl (by unfold caAt; rw [if_neg (by simp_all), if_neg (by simp_all), if_neg (by simp_all), if_pos (by simp_all)]) (by decide))), trivial⟩
              · -- no
                try simp at h7
                refine awp_skip ?_
                refine awp_plain hN rfl ?_
                refine seq_run0 (stp_add rfl rfl (by omega)) ?_
                first | refine seq_run0 (stp_move (.dat _) rfl) ?_ | refine seq_run0 (stp_move (.ptr _ _) rfl) ?_ | refine seq_run0 (stp_move (.row _ _) rfl) ?_ | refine seq_run0 (stp_move (.rptr _ _ _ _ _) rfl) ?_ | refine seq_run0 (stp_move (.mp _) rfl) ?_
                exact ⟨k + 1, ⟨by omega, firstErr_step hu (by unfold caAt; rw [if_neg (by simp_all), if_neg (by simp_all), if_neg (by simp_all), if_neg (by simp_all)])⟩, by omega, ⟨rfl, rfl, rfl, rfl, trivial⟩, trivial⟩
    · -- no
      try simp at h2
      refine awp_exit ?_
      refine awp_seq ?_
      refine awp_plain hN rfl ?_
      refine seq_run0 (stp_assign (.dat _) rfl) ?_
      refine awp_ret ?_
      exact ⟨trivial, .inl (congrArg vint (by rw [hci]; exact fe_end hu (by omega) hk)), trivial⟩
end Go.Proofs.Ytmcegaabopcmfaa
