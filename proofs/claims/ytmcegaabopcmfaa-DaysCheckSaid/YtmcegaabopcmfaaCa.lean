/- Calls: the program's check and the reference's. -/
import Derived.Test.YtmcegaabopcmfaaRo
namespace Go.Proofs.Ytmcegaabopcmfaa
open Go.RowKit
set_option linter.unusedVariables false
set_option maxRecDepth 20000

structure CalOK (xs : List Inst) : Prop where
  len : xs.length ≤ 1000
  ok : ∀ p, p ∈ xs → p.1.length ≤ 1000
def seenB (xs : List Inst) (k : Nat) (l : List UInt8) : Bool := (xs.take k).any fun p => decide (p.1 = l)
theorem seen_succ {xs : List Inst} {k : Nat} (h : k < xs.length) : seenB xs (k + 1) = updM (seenB xs k) (ky xs k) true := by
  funext l
  unfold seenB updM
  rw [nth_take (d := ([], 0)) h, List.any_append]
  by_cases hl : l = ky xs k
  · subst hl; simp
  · rw [if_neg hl]; simp; intro h2; exact absurd h2.symm hl
def lateB (xs : List Inst) (k : Nat) : Bool := decide (0 < (k : Int)) && decide (wt xs k < wt xs ((k : Int) - 1).toNat)
def caAt (xs : List Inst) (k : Nat) : Int :=
  if keyB (ky xs k) = false then 5 else if seenB xs k (ky xs k) = true then 6 else if momB (wt xs k) = false then 1 else if lateB xs k = true then 7 else 0
def caF (xs : List Inst) : Int := if 300 < xs.length then 2 else firstErr (caAt xs) xs.length
theorem k_upstream_CheckCalls (xs : List Inst) (hok : CalOK xs)  : Fn Try.prog 30 [vlst (xs.map instE)] (resOf [vint (caF xs)]) := by
  have hle := inst_len xs
  have hln : (xs.map instE).length = xs.length := by simp
  have hlen := hok.len
  refine ⟨by kernel_rfl, pure_of (us := [vint (caF xs)]) Try.func30 rfl rfl rfl rfl fun X hN => ?_⟩
  refine awp_seq ?_
  refine awp_plain hN rfl ?_
  refine seq_run0 (stp_assign (.dat _) rfl) ?_
  refine awp_seq ?_
  refine awp_seq ?_
  refine awp_plain hN rfl ?_
  first | refine seq_run0 (stp_move (.dat _) rfl) ?_ | refine seq_run0 (stp_move (.ptr _ _) rfl) ?_ | refine seq_run0 (stp_move (.row _ _) rfl) ?_ | refine seq_run0 (stp_move (.rptr _ _ _ _ _) rfl) ?_ | refine seq_run0 (stp_move (.mp _) rfl) ?_
  first | refine seq_run0 (stp_len_lst tyU56 rfl) ?_ | refine seq_run1 (stp_len_row tyU56 rfl rfl) rfl ?_ | refine seq_run0 (stp_len_nil tyU56 rfl) ?_
  refine seq_run0 (stp_gtr rfl rfl) ?_
  refine awp_cond _ rfl (fun h1 => ?_) (fun h1 => ?_)
  · -- yes
    try simp at h1
    refine awp_seq ?_
    refine awp_plain hN rfl ?_
    refine seq_run0 (stp_assign (.dat _) rfl) ?_
    refine awp_ret ?_
    exact ⟨trivial, .inl (congrArg vint (by unfold caF; rw [if_pos (by omega)])), trivial⟩
  · -- no
    try simp at h1
    refine awp_skip ?_
    refine awp_seq ?_
    refine awp_plain hN rfl ?_
    refine seq_run2 (stp_mkB 1 tyM128) rfl ?_
    first | refine seq_run0 (stp_assign (.dat _) rfl) ?_ | refine seq_run0 (stp_assign (.ptr _ _) rfl) ?_ | refine seq_run0 (stp_assign (.row _ _) rfl) ?_ | refine seq_run0 (stp_assign (.rptr _ _ _ _ _) rfl) ?_ | refine seq_run0 (stp_assign (.mp _) rfl) ?_
    refine awp_seq ?_
    refine awp_seq ?_
    refine awp_plain hN rfl ?_
    first | refine seq_run0 (stp_move (.dat _) rfl) ?_ | refine seq_run0 (stp_move (.ptr _ _) rfl) ?_ | refine seq_run0 (stp_move (.row _ _) rfl) ?_ | refine seq_run0 (stp_move (.rptr _ _ _ _ _) rfl) ?_ | refine seq_run0 (stp_move (.mp _) rfl) ?_
    first | refine seq_run0 (stp_len_lst tyU56 rfl) ?_ | refine seq_run1 (stp_len_row tyU56 rfl rfl) rfl ?_ | refine seq_run0 (stp_len_nil tyU56 rfl) ?_
    refine seq_run0 (stp_move (.dat _) rfl) ?_
    refine awp_block ?_
    have hci : caF xs = firstErr (caAt xs) xs.length := by unfold caF; rw [if_neg (by omega)]
    refine awp_loop (fun k : Nat => [(0, .dat (vlst (xs.map instE))), (3, .mp 1), (10, .dat (vlst (xs.map instE))), (11, .dat (vint ((xs.map instE).length : Int))), (12, .dat (vint (k : Int)))]) (fun k : Nat => [(1, .opq (mapBO Try.prog 9 4 k (seenB xs k)))]) (fun k : Nat => k ≤ xs.length ∧ firstErr (caAt xs) k = 0) (fun k : Nat => xs.length - k) 0 ⟨by omega, rfl⟩ ⟨rfl, rfl, rfl, rfl, rfl, trivial⟩ ⟨rfl, trivial⟩ (fun _ => rfl) (fun k hI => ?_)
    obtain ⟨hk, hu⟩ := hI
    refine awp_seq ?_
    refine awp_plain hN rfl ?_
    refine seq_run0 (stp_lss rfl rfl) ?_
    refine awp_seq ?_
    refine awp_cond _ rfl (fun h2 => ?_) (fun h2 => ?_)
    · -- yes
      try simp at h2
      have hkl : k < xs.length := by omega
      have hat := inst_at hkl
      have hrg := hok.ok _ (nth_mem (d := ([], 0)) hkl)
      refine awp_skip ?_
      refine awp_seq ?_
      refine awp_block ?_
      refine awp_seq ?_
      refine awp_plain hN rfl ?_
      first | refine seq_run0 (stp_move (.dat _) rfl) ?_ | refine seq_run0 (stp_move (.ptr _ _) rfl) ?_ | refine seq_run0 (stp_move (.row _ _) rfl) ?_ | refine seq_run0 (stp_move (.rptr _ _ _ _ _) rfl) ?_ | refine seq_run0 (stp_move (.mp _) rfl) ?_
      first | refine seq_run0 (stp_idxE tyE56 rfl rfl (by omega) (by assumption)) ?_ | refine seq_run0 (stp_idxI tyE56 rfl rfl (by omega) (by assumption)) ?_ | refine seq_run1 (stp_idxR tyE56 rfl rfl (by first | rfl | omega | simp) (by first | omega | (simp; omega))) rfl ?_ | refine seq_run1 (stp_idxRI tyE56 rfl rfl (by first | rfl | omega | simp) (by first | omega | (simp; omega))) rfl ?_
      first | refine seq_run1 (stp_loadA tyS120 rfl rfl rfl) rfl ?_ | refine seq_run0 (stp_loadEA tyS120 rfl (by first | assumption | rfl) rfl) ?_ | refine seq_run1 (stp_loadRA tyS120 rfl (by first | rfl | omega | simp) (by first | assumption | exact List.getElem?_set_self (by simp; omega)) rfl) rfl ?_ | refine seq_run0 (stp_loadEP tyS120 rfl (by first | assumption | rfl) rfl) ?_
      refine seq_run2 (stp_alloc 2 tyZ120 rfl) rfl ?_
      first | refine seq_run0 (stp_assign (.dat _) rfl) ?_ | refine seq_run0 (stp_assign (.ptr _ _) rfl) ?_ | refine seq_run0 (stp_assign (.row _ _) rfl) ?_ | refine seq_run0 (stp_assign (.rptr _ _ _ _ _) rfl) ?_ | refine seq_run0 (stp_assign (.mp _) rfl) ?_
      first | refine seq_run2 (stp_storeW tyS120 rfl rfl rfl rfl) rfl ?_ | refine seq_run2 (stp_storeA tyS120 rfl rfl rfl rfl) rfl ?_
      refine awp_seq ?_
      refine awp_block ?_
      refine awp_seq ?_
      refine awp_plain hN rfl ?_
      first | refine seq_run0 (stp_fldP tyF120_0 rfl) ?_ | refine seq_run0 (stp_fldE tyF120_0 rfl) ?_ | refine seq_run0 (stp_fldR tyF120_0 rfl) ?_
      first | refine seq_run1 (stp_load1 tyS9 rfl rfl) rfl ?_ | refine seq_run0 (stp_loadE1 tyS9 rfl (by first | assumption | rfl) rfl) ?_ | refine seq_run1 (stp_loadR1 tyS9 rfl (by first | rfl | omega | simp) (by first | assumption | exact List.getElem?_set_self (by simp; omega)) rfl) rfl ?_
      refine seq_run0 (stp_call (k_kit_IsKey _ (by omega)) ⟨.inl rfl, trivial⟩) ?_
      refine seq_run0 (stp_not rfl) ?_
      first | refine seq_run0 (stp_assign (.dat _) rfl) ?_ | refine seq_run0 (stp_assign (.ptr _ _) rfl) ?_ | refine seq_run0 (stp_assign (.row _ _) rfl) ?_ | refine seq_run0 (stp_assign (.rptr _ _ _ _ _) rfl) ?_ | refine seq_run0 (stp_assign (.mp _) rfl) ?_
      refine awp_cond _ rfl (fun h3 => ?_) (fun h3 => ?_)
      · -- yes
        try simp at h3
        refine awp_seq ?_
        refine awp_plain hN rfl ?_
        refine seq_run0 (stp_assign (.dat _) rfl) ?_
        refine awp_ret ?_
        exact ⟨trivial, .inl (congrArg vint (by rw [hci]; exact fe_stop hu hkl (by unfold caAt; rw [if_pos (by simp_all)]) (by decide))), trivial⟩
      · -- no
        try simp at h3
        refine awp_seq ?_
        refine awp_plain hN rfl ?_
        first | refine seq_run0 (stp_move (.dat _) rfl) ?_ | refine seq_run0 (stp_move (.ptr _ _) rfl) ?_ | refine seq_run0 (stp_move (.row _ _) rfl) ?_ | refine seq_run0 (stp_move (.rptr _ _ _ _ _) rfl) ?_ | refine seq_run0 (stp_move (.mp _) rfl) ?_
        first | refine seq_run0 (stp_fldP tyF120_0 rfl) ?_ | refine seq_run0 (stp_fldE tyF120_0 rfl) ?_ | refine seq_run0 (stp_fldR tyF120_0 rfl) ?_
        first | refine seq_run1 (stp_load1 tyS9 rfl rfl) rfl ?_ | refine seq_run0 (stp_loadE1 tyS9 rfl (by first | assumption | rfl) rfl) ?_ | refine seq_run1 (stp_loadR1 tyS9 rfl (by first | rfl | omega | simp) (by first | assumption | exact List.getElem?_set_self (by simp; omega)) rfl) rfl ?_
        refine seq_run1 (stp_lookB tyM128 rfl rfl (by omega)) rfl ?_
        first | refine seq_run0 (stp_assign (.dat _) rfl) ?_ | refine seq_run0 (stp_assign (.ptr _ _) rfl) ?_ | refine seq_run0 (stp_assign (.row _ _) rfl) ?_ | refine seq_run0 (stp_assign (.rptr _ _ _ _ _) rfl) ?_ | refine seq_run0 (stp_assign (.mp _) rfl) ?_
        refine awp_cond _ rfl (fun h4 => ?_) (fun h4 => ?_)
        · -- yes
          try simp at h4
          refine awp_seq ?_
          refine awp_plain hN rfl ?_
          refine seq_run0 (stp_assign (.dat _) rfl) ?_
          refine awp_ret ?_
          exact ⟨trivial, .inl (congrArg vint (by rw [hci]; exact fe_stop hu hkl (by unfold caAt; rw [if_neg (by simp_all), if_pos (by simp_all)]) (by decide))), trivial⟩
        · -- no
          try simp at h4
          refine awp_seq ?_
          refine awp_plain hN rfl ?_
          first | refine seq_run0 (stp_fldP tyF120_1 rfl) ?_ | refine seq_run0 (stp_fldE tyF120_1 rfl) ?_ | refine seq_run0 (stp_fldR tyF120_1 rfl) ?_
          first | refine seq_run1 (stp_load1 tyS3 rfl rfl) rfl ?_ | refine seq_run0 (stp_loadE1 tyS3 rfl (by first | assumption | rfl) rfl) ?_ | refine seq_run1 (stp_loadR1 tyS3 rfl (by first | rfl | omega | simp) (by first | assumption | exact List.getElem?_set_self (by simp; omega)) rfl) rfl ?_
          refine seq_run0 (stp_call (k_kit_IsMoment _) ⟨.inl rfl, trivial⟩) ?_
          refine seq_run0 (stp_not rfl) ?_
          first | refine seq_run0 (stp_assign (.dat _) rfl) ?_ | refine seq_run0 (stp_assign (.ptr _ _) rfl) ?_ | refine seq_run0 (stp_assign (.row _ _) rfl) ?_ | refine seq_run0 (stp_assign (.rptr _ _ _ _ _) rfl) ?_ | refine seq_run0 (stp_assign (.mp _) rfl) ?_
          refine awp_cond _ rfl (fun h5 => ?_) (fun h5 => ?_)
          · -- yes
            try simp at h5
            refine awp_seq ?_
            refine awp_plain hN rfl ?_
            refine seq_run0 (stp_assign (.dat _) rfl) ?_
            refine awp_ret ?_
            exact ⟨trivial, .inl (congrArg vint (by rw [hci]; exact fe_stop hu hkl (by unfold caAt; rw [if_neg (by simp_all), if_neg (by simp_all), if_pos (by simp_all)]) (by decide))), trivial⟩
          · -- no
            try simp at h5
            refine awp_rjD [(32, .dat (vbool (lateB xs k)))] mixed hN rfl rfl ?_ ?_
            · -- region 13
              first | refine seq_run0 (stp_move (.dat _) rfl) ?_ | refine seq_run0 (stp_move (.ptr _ _) rfl) ?_ | refine seq_run0 (stp_move (.row _ _) rfl) ?_ | refine seq_run0 (stp_move (.rptr _ _ _ _ _) rfl) ?_ | refine seq_run0 (stp_move (.mp _) rfl) ?_
              refine seq_run0 (stp_gtr rfl rfl) ?_
              first | refine seq_run0 (stp_move (.dat _) rfl) ?_ | refine seq_run0 (stp_move (.ptr _ _) rfl) ?_ | refine seq_run0 (stp_move (.row _ _) rfl) ?_ | refine seq_run0 (stp_move (.rptr _ _ _ _ _) rfl) ?_ | refine seq_run0 (stp_move (.mp _) rfl) ?_
              refine seq_split (j := 2) rfl rfl (fun h6 => ?_) (fun h6 => ?_) rfl
              · -- guard (2, True): runs
                have qh6 := h6
                try simp at qh6
                have hkp : (((k : Int) - 1).toNat : Int) = (k : Int) - 1 := by omega
                have hat2 := inst_at (l := xs) (k := ((k : Int) - 1).toNat) (by omega)
                first | refine seq_g0 rfl rfl h6 (stp_fldP tyF120_1 rfl) ?_ | refine seq_g0 rfl rfl h6 (stp_fldE tyF120_1 rfl) ?_ | refine seq_g0 rfl rfl h6 (stp_fldR tyF120_1 rfl) ?_
                first | refine seq_g1 rfl rfl h6 (stp_load1 tyS3 rfl rfl) rfl ?_ | refine seq_g0 rfl rfl h6 (stp_loadE1 tyS3 rfl (by first | assumption | rfl) rfl) ?_ | refine seq_g1 rfl rfl h6 (stp_loadR1 tyS3 rfl (by first | rfl | omega | simp) (by first | assumption | exact List.getElem?_set_self (by simp; omega)) rfl) rfl ?_
                first | refine seq_g0 rfl rfl h6 (stp_move (.dat _) rfl) ?_ | refine seq_g0 rfl rfl h6 (stp_move (.ptr _ _) rfl) ?_ | refine seq_g0 rfl rfl h6 (stp_move (.row _ _) rfl) ?_ | refine seq_g0 rfl rfl h6 (stp_move (.rptr _ _ _ _ _) rfl) ?_ | refine seq_g0 rfl rfl h6 (stp_move (.mp _) rfl) ?_
                first | refine seq_g0 rfl rfl h6 (stp_move (.dat _) rfl) ?_ | refine seq_g0 rfl rfl h6 (stp_move (.ptr _ _) rfl) ?_ | refine seq_g0 rfl rfl h6 (stp_move (.row _ _) rfl) ?_ | refine seq_g0 rfl rfl h6 (stp_move (.rptr _ _ _ _ _) rfl) ?_ | refine seq_g0 rfl rfl h6 (stp_move (.mp _) rfl) ?_
                refine seq_g0 rfl rfl h6 (stp_sub rfl rfl (by omega)) ?_
                first | refine seq_g0 rfl rfl h6 (stp_idxE tyE56 rfl rfl (by omega) (by assumption)) ?_ | refine seq_g0 rfl rfl h6 (stp_idxI tyE56 rfl rfl (by omega) (by assumption)) ?_ | refine seq_g1 rfl rfl h6 (stp_idxR tyE56 rfl rfl (by first | rfl | omega | simp) (by first | omega | (simp; omega))) rfl ?_ | refine seq_g1 rfl rfl h6 (stp_idxRI tyE56 rfl rfl (by first | rfl | omega | simp) (by first | omega | (simp; omega))) rfl ?_
                first | refine seq_g0 rfl rfl h6 (stp_fldP tyF120_1 rfl) ?_ | refine seq_g0 rfl rfl h6 (stp_fldE tyF120_1 rfl) ?_ | refine seq_g0 rfl rfl h6 (stp_fldR tyF120_1 rfl) ?_
                first | refine seq_g1 rfl rfl h6 (stp_load1 tyS3 rfl rfl) rfl ?_ | refine seq_g0 rfl rfl h6 (stp_loadE1 tyS3 rfl (by first | assumption | rfl) rfl) ?_ | refine seq_g1 rfl rfl h6 (stp_loadR1 tyS3 rfl (by first | rfl | omega | simp) (by first | assumption | exact List.getElem?_set_self (by simp; omega)) rfl) rfl ?_
                refine seq_g0 rfl rfl h6 (stp_lss rfl rfl) ?_
                refine seq_run0 (stp_pick_t rfl h6 rfl) ?_
                first | refine seq_run0 (stp_assign (.dat _) rfl) ?_ | refine seq_run0 (stp_assign (.ptr _ _) rfl) ?_ | refine seq_run0 (stp_assign (.row _ _) rfl) ?_ | refine seq_run0 (stp_assign (.rptr _ _ _ _ _) rfl) ?_ | refine seq_run0 (stp_assign (.mp _) rfl) ?_
                exact ⟨rfl, rfl, jb (by unfold lateB; simp_all), trivial⟩
              · -- guard (2, True): is left out
                have qh6 := h6
                try simp at qh6
                refine seq_skip rfl rfl h6 ?_
                refine seq_skip rfl rfl h6 ?_
                refine seq_skip rfl rfl h6 ?_
                refine seq_skip rfl rfl h6 ?_
                refine seq_skip rfl rfl h6 ?_
                refine seq_skip rfl rfl h6 ?_
                refine seq_skip rfl rfl h6 ?_
                refine seq_skip rfl rfl h6 ?_
                refine seq_skip rfl rfl h6 ?_
                refine seq_run0 (stp_pick_f' rfl h6 rfl) ?_
                first | refine seq_run0 (stp_assign (.dat _) rfl) ?_ | refine seq_run0 (stp_assign (.ptr _ _) rfl) ?_ | refine seq_run0 (stp_assign (.row _ _) rfl) ?_ | refine seq_run0 (stp_assign (.rptr _ _ _ _ _) rfl) ?_ | refine seq_run0 (stp_assign (.mp _) rfl) ?_
                exact ⟨rfl, rfl, jb (by unfold lateB; simp_all), trivial⟩
            · -- behind region 13
              refine awp_cond _ rfl (fun h7 => ?_) (fun h7 => ?_)
              · -- yes
                try simp at h7
                refine awp_seq ?_
                refine awp_plain hN rfl ?_
                refine seq_run0 (stp_assign (.dat _) rfl) ?_
                refine awp_ret ?_
                exact ⟨trivial, .inl (congrArg vint (by rw [hci]; exact fe_stop hu hkl (by unfold caAt; rw [if_neg (by simp_all), if_neg (by simp_all), if_neg (by simp_all), if_pos (by simp_all)]) (by decide))), trivial⟩
              · -- no
                try simp at h7
                refine awp_skip ?_
                refine awp_plain hN rfl ?_
                first | refine seq_run0 (stp_move (.dat _) rfl) ?_ | refine seq_run0 (stp_move (.ptr _ _) rfl) ?_ | refine seq_run0 (stp_move (.row _ _) rfl) ?_ | refine seq_run0 (stp_move (.rptr _ _ _ _ _) rfl) ?_ | refine seq_run0 (stp_move (.mp _) rfl) ?_
                first | refine seq_run0 (stp_fldP tyF120_0 rfl) ?_ | refine seq_run0 (stp_fldE tyF120_0 rfl) ?_ | refine seq_run0 (stp_fldR tyF120_0 rfl) ?_
                first | refine seq_run1 (stp_load1 tyS9 rfl rfl) rfl ?_ | refine seq_run0 (stp_loadE1 tyS9 rfl (by first | assumption | rfl) rfl) ?_ | refine seq_run1 (stp_loadR1 tyS9 rfl (by first | rfl | omega | simp) (by first | assumption | exact List.getElem?_set_self (by simp; omega)) rfl) rfl ?_
                refine seq_run2 (stp_putB tyM128 rfl rfl rfl (by omega) (by omega)) rfl ?_
                refine awp_plain hN rfl ?_
                refine seq_run0 (stp_add rfl rfl (by omega)) ?_
                first | refine seq_run0 (stp_move (.dat _) rfl) ?_ | refine seq_run0 (stp_move (.ptr _ _) rfl) ?_ | refine seq_run0 (stp_move (.row _ _) rfl) ?_ | refine seq_run0 (stp_move (.rptr _ _ _ _ _) rfl) ?_ | refine seq_run0 (stp_move (.mp _) rfl) ?_
                exact ⟨k + 1, ⟨by omega, firstErr_step hu (by unfold caAt; rw [if_neg (by simp_all), if_neg (by simp_all), if_neg (by simp_all), if_neg (by simp_all)])⟩, by omega, ⟨rfl, rfl, rfl, rfl, rfl, trivial⟩, ⟨by rw [seen_succ hkl]; rfl, trivial⟩⟩
    · -- no
      try simp at h2
      refine awp_exit ?_
      refine awp_seq ?_
      refine awp_plain hN rfl ?_
      refine seq_run0 (stp_assign (.dat _) rfl) ?_
      refine awp_ret ?_
      exact ⟨trivial, .inl (congrArg vint (by rw [hci]; exact fe_end hu (by omega) hk)), trivial⟩
end Go.Proofs.Ytmcegaabopcmfaa
