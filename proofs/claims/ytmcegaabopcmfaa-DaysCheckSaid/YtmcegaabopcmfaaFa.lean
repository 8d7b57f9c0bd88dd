/- Faults: instances of the reference; budgets, outliers, setups. -/
import Derived.Test.YtmcegaabopcmfaaIn
namespace Go.Proofs.Ytmcegaabopcmfaa
open Go.RowKit
set_option linter.unusedVariables false
set_option maxRecDepth 20000

theorem leS_nil {l : List UInt8} (h : keyB l = true) : leS l [] = false := by
  unfold keyB at h
  cases l with
  | nil => simp at h
  | cons c r => rfl
def lastK (xs : List Inst) (k : Nat) : List UInt8 := if k = 0 then [] else (nth ([], 0) xs ((k : Int) - 1).toNat).1
theorem lastK_le {xs : List Inst} {k : Nat} (h : keyB (nth ([], 0) xs k).1 = true) : leS (nth ([], 0) xs k).1 (lastK xs k) = (decide (0 < (k : Int)) && leS (ky xs k) (ky xs ((k : Int) - 1).toNat)) := by
  unfold lastK
  by_cases hk : k = 0
  · rw [if_pos hk, leS_nil h]; subst hk; simp
  · rw [if_neg hk]
    have : decide (0 < (k : Int)) = true := by simp; omega
    rw [this]; rfl
theorem lastK_succ (xs : List Inst) (k : Nat) : lastK xs (k + 1) = (nth ([], 0) xs k).1 := by
  unfold lastK
  rw [if_neg (by omega)]
  have : (((k + 1 : Nat) : Int) - 1).toNat = k := by omega
  rw [this]
theorem k_gateref2_InstancesFault (xs : List Inst) (hok : InsOK xs)  : Fn Try.prog 26 [vlst (xs.map instE)] (resOf [vint (ciFault xs)]) := by
  have hle := inst_len xs
  have hln : (xs.map instE).length = xs.length := by simp
  have hlen := hok.len
  have hci : ciFault xs = firstErr (ciAt xs) xs.length := by unfold ciFault; rw [if_neg (by omega)]
  refine ⟨by kernel_rfl, pure_of (us := [vint (ciFault xs)]) Try.func26 rfl rfl rfl rfl fun X hN => ?_⟩
  refine awp_seq ?_
  refine awp_plain hN rfl ?_
  refine seq_run0 (stp_assign (.dat _) rfl) ?_
  refine awp_seq ?_
  refine awp_seq ?_
  refine awp_plain hN rfl ?_
  first | refine seq_run0 (stp_move (.dat _) rfl) ?_ | refine seq_run0 (stp_move (.ptr _ _) rfl) ?_ | refine seq_run0 (stp_move (.row _ _) rfl) ?_ | refine seq_run0 (stp_move (.rptr _ _ _ _ _) rfl) ?_ | refine seq_run0 (stp_move (.mp _) rfl) ?_
  first | refine seq_run0 (stp_len_lst tyU48 rfl) ?_ | refine seq_run1 (stp_len_row tyU48 rfl rfl) rfl ?_ | refine seq_run0 (stp_len_nil tyU48 rfl) ?_
  refine seq_run0 (stp_gtr rfl rfl) ?_
  refine awp_cond _ rfl (fun h1 => (by exfalso; simp at h1; omega)) (fun h1 => ?_)
  try simp at h1
  refine awp_skip ?_
  refine awp_seq ?_
  refine awp_plain hN rfl ?_
  refine seq_run0 (stp_assign (.dat _) rfl) ?_
  refine awp_seq ?_
  refine awp_seq ?_
  refine awp_plain hN rfl ?_
  first | refine seq_run0 (stp_move (.dat _) rfl) ?_ | refine seq_run0 (stp_move (.ptr _ _) rfl) ?_ | refine seq_run0 (stp_move (.row _ _) rfl) ?_ | refine seq_run0 (stp_move (.rptr _ _ _ _ _) rfl) ?_ | refine seq_run0 (stp_move (.mp _) rfl) ?_
  first | refine seq_run0 (stp_len_lst tyU48 rfl) ?_ | refine seq_run1 (stp_len_row tyU48 rfl rfl) rfl ?_ | refine seq_run0 (stp_len_nil tyU48 rfl) ?_
  refine seq_run0 (stp_move (.dat _) rfl) ?_
  refine awp_block ?_
  refine awp_loop (fun k : Nat => [(3, .dat (vstr (lastK xs k))), (9, .dat (vlst (xs.map instE))), (10, .dat (vint ((xs.map instE).length : Int))), (11, .dat (vint (k : Int)))]) (fun k : Nat => []) (fun k : Nat => k ≤ xs.length ∧ firstErr (ciAt xs) k = 0) (fun k : Nat => xs.length - k) 0 ⟨by omega, rfl⟩ ⟨rfl, rfl, rfl, rfl, trivial⟩ trivial (fun _ => rfl) (fun k hI => ?_)
  obtain ⟨hk, hu⟩ := hI
  refine awp_seq ?_
  refine awp_plain hN rfl ?_
  refine seq_run0 (stp_lss rfl rfl) ?_
  refine awp_seq ?_
  refine awp_cond _ rfl (fun h2 => ?_) (fun h2 => ?_)
  · -- yes
    try simp at h2
    have hkl : k < xs.length := by omega
    have hat := inst_at hkl
    have hrg := hok.ok _ (nth_mem (d := ([], 0)) hkl)
    have hsm : (nth ([], 0) xs k).1.length ≤ 1000000 := by omega
    refine awp_skip ?_
    refine awp_seq ?_
    refine awp_block ?_
    refine awp_seq ?_
    refine awp_plain hN rfl ?_
    first | refine seq_run0 (stp_idxE tyE48 rfl rfl (by omega) (by assumption)) ?_ | refine seq_run0 (stp_idxI tyE48 rfl rfl (by omega) (by assumption)) ?_ | refine seq_run1 (stp_idxR tyE48 rfl rfl (by first | rfl | omega | simp) (by first | omega | (simp; omega))) rfl ?_ | refine seq_run1 (stp_idxRI tyE48 rfl rfl (by first | rfl | omega | simp) (by first | omega | (simp; omega))) rfl ?_
    first | refine seq_run1 (stp_loadA tyS114 rfl rfl rfl) rfl ?_ | refine seq_run0 (stp_loadEA tyS114 rfl (by first | assumption | rfl) rfl) ?_ | refine seq_run1 (stp_loadRA tyS114 rfl (by first | rfl | omega | simp) (by first | assumption | exact List.getElem?_set_self (by simp; omega)) rfl) rfl ?_ | refine seq_run0 (stp_loadEP tyS114 rfl (by first | assumption | rfl) rfl) ?_
    refine seq_run2 (stp_alloc 1 tyZ114 rfl) rfl ?_
    first | refine seq_run2 (stp_storeW tyS114 rfl rfl rfl rfl) rfl ?_ | refine seq_run2 (stp_storeA tyS114 rfl rfl rfl rfl) rfl ?_
    refine awp_seq ?_
    refine awp_block ?_
    refine awp_seq ?_
    refine awp_plain hN rfl ?_
    first | refine seq_run0 (stp_fldP tyF114_0 rfl) ?_ | refine seq_run0 (stp_fldE tyF114_0 rfl) ?_ | refine seq_run0 (stp_fldR tyF114_0 rfl) ?_
    first | refine seq_run1 (stp_load1 tyS9 rfl rfl) rfl ?_ | refine seq_run0 (stp_loadE1 tyS9 rfl (by first | assumption | rfl) rfl) ?_ | refine seq_run1 (stp_loadR1 tyS9 rfl (by first | rfl | omega | simp) (by first | assumption | exact List.getElem?_set_self (by simp; omega)) rfl) rfl ?_
    refine seq_run0 (stp_call (k_gateref2_Key _ hsm) ⟨.inl rfl, trivial⟩) ?_
    refine seq_run0 (stp_not rfl) ?_
    first | refine seq_run0 (stp_assign (.dat _) rfl) ?_ | refine seq_run0 (stp_assign (.ptr _ _) rfl) ?_ | refine seq_run0 (stp_assign (.row _ _) rfl) ?_ | refine seq_run0 (stp_assign (.rptr _ _ _ _ _) rfl) ?_ | refine seq_run0 (stp_assign (.mp _) rfl) ?_
    refine awp_cond _ rfl (fun h3 => ?_) (fun h3 => ?_)
    · -- yes
      try simp at h3
      refine awp_seq ?_
      refine awp_plain hN rfl ?_
      refine seq_run0 (stp_assign (.dat _) rfl) ?_
      refine awp_ret ?_
      exact ⟨trivial, .inl (congrArg vint (by rw [hci]; exact fe_stop hu hkl (by unfold ciAt; rw [if_pos (by simp_all)]) (by decide))), trivial⟩
    · -- no
      try simp at h3
      refine awp_seq ?_
      refine awp_plain hN rfl ?_
      first | refine seq_run0 (stp_fldP tyF114_0 rfl) ?_ | refine seq_run0 (stp_fldE tyF114_0 rfl) ?_ | refine seq_run0 (stp_fldR tyF114_0 rfl) ?_
      first | refine seq_run1 (stp_load1 tyS9 rfl rfl) rfl ?_ | refine seq_run0 (stp_loadE1 tyS9 rfl (by first | assumption | rfl) rfl) ?_ | refine seq_run1 (stp_loadR1 tyS9 rfl (by first | rfl | omega | simp) (by first | assumption | exact List.getElem?_set_self (by simp; omega)) rfl) rfl ?_
      first | refine seq_run0 (stp_move (.dat _) rfl) ?_ | refine seq_run0 (stp_move (.ptr _ _) rfl) ?_ | refine seq_run0 (stp_move (.row _ _) rfl) ?_ | refine seq_run0 (stp_move (.rptr _ _ _ _ _) rfl) ?_ | refine seq_run0 (stp_move (.mp _) rfl) ?_
      refine seq_run0 (stp_sleq rfl rfl) ?_
      first | refine seq_run0 (stp_assign (.dat _) rfl) ?_ | refine seq_run0 (stp_assign (.ptr _ _) rfl) ?_ | refine seq_run0 (stp_assign (.row _ _) rfl) ?_ | refine seq_run0 (stp_assign (.rptr _ _ _ _ _) rfl) ?_ | refine seq_run0 (stp_assign (.mp _) rfl) ?_
      refine awp_cond _ rfl (fun h4 => ?_) (fun h4 => ?_)
      · -- yes
        try simp at h4
        refine awp_seq ?_
        refine awp_plain hN rfl ?_
        refine seq_run0 (stp_assign (.dat _) rfl) ?_
        refine awp_ret ?_
        exact ⟨trivial, .inl (congrArg vint (by rw [hci]; exact fe_stop hu hkl (by unfold ciAt; rw [if_neg (by simp_all), if_pos (by rw [← lastK_le (by simp_all)]; simp_all [leS])]) (by decide))), trivial⟩
      · -- no
        try simp at h4
        refine awp_seq ?_
        refine awp_plain hN rfl ?_
        first | refine seq_run0 (stp_fldP tyF114_1 rfl) ?_ | refine seq_run0 (stp_fldE tyF114_1 rfl) ?_ | refine seq_run0 (stp_fldR tyF114_1 rfl) ?_
        first | refine seq_run1 (stp_load1 tyS3 rfl rfl) rfl ?_ | refine seq_run0 (stp_loadE1 tyS3 rfl (by first | assumption | rfl) rfl) ?_ | refine seq_run1 (stp_loadR1 tyS3 rfl (by first | rfl | omega | simp) (by first | assumption | exact List.getElem?_set_self (by simp; omega)) rfl) rfl ?_
        refine seq_run0 (stp_call (k_gateref2_in _ _ _) ⟨.inl rfl, .inl rfl, .inl rfl, trivial⟩) ?_
        refine seq_run0 (stp_not rfl) ?_
        first | refine seq_run0 (stp_assign (.dat _) rfl) ?_ | refine seq_run0 (stp_assign (.ptr _ _) rfl) ?_ | refine seq_run0 (stp_assign (.row _ _) rfl) ?_ | refine seq_run0 (stp_assign (.rptr _ _ _ _ _) rfl) ?_ | refine seq_run0 (stp_assign (.mp _) rfl) ?_
        refine awp_cond _ rfl (fun h5 => ?_) (fun h5 => ?_)
        · -- yes
          try simp at h5
          refine awp_seq ?_
          refine awp_plain hN rfl ?_
          refine seq_run0 (stp_assign (.dat _) rfl) ?_
          refine awp_ret ?_
          exact ⟨trivial, .inl (congrArg vint (by rw [hci]; exact fe_stop hu hkl (by unfold ciAt; rw [if_neg (by simp_all), if_neg (by rw [← lastK_le (by simp_all)]; simp_all [leS]), if_pos (by rw [out_in]; simp_all)]) (by decide))), trivial⟩
        · -- no
          try simp at h5
          refine awp_skip ?_
          refine awp_plain hN rfl ?_
          first | refine seq_run0 (stp_fldP tyF114_0 rfl) ?_ | refine seq_run0 (stp_fldE tyF114_0 rfl) ?_ | refine seq_run0 (stp_fldR tyF114_0 rfl) ?_
          first | refine seq_run1 (stp_load1 tyS9 rfl rfl) rfl ?_ | refine seq_run0 (stp_loadE1 tyS9 rfl (by first | assumption | rfl) rfl) ?_ | refine seq_run1 (stp_loadR1 tyS9 rfl (by first | rfl | omega | simp) (by first | assumption | exact List.getElem?_set_self (by simp; omega)) rfl) rfl ?_
          first | refine seq_run0 (stp_assign (.dat _) rfl) ?_ | refine seq_run0 (stp_assign (.ptr _ _) rfl) ?_ | refine seq_run0 (stp_assign (.row _ _) rfl) ?_ | refine seq_run0 (stp_assign (.rptr _ _ _ _ _) rfl) ?_ | refine seq_run0 (stp_assign (.mp _) rfl) ?_
          refine awp_plain hN rfl ?_
          refine seq_run0 (stp_add rfl rfl (by omega)) ?_
          first | refine seq_run0 (stp_move (.dat _) rfl) ?_ | refine seq_run0 (stp_move (.ptr _ _) rfl) ?_ | refine seq_run0 (stp_move (.row _ _) rfl) ?_ | refine seq_run0 (stp_move (.rptr _ _ _ _ _) rfl) ?_ | refine seq_run0 (stp_move (.mp _) rfl) ?_
          exact ⟨k + 1, ⟨by omega, firstErr_step hu (by unfold ciAt; rw [if_neg (by simp_all), if_neg (by rw [← lastK_le (by simp_all)]; simp_all [leS]), if_neg (by rw [out_in]; simp_all)])⟩, by omega, ⟨by rw [lastK_succ]; rfl, rfl, rfl, rfl, trivial⟩, trivial⟩
  · -- no
    try simp at h2
    refine awp_exit ?_
    refine awp_seq ?_
    refine awp_plain hN rfl ?_
    refine seq_run0 (stp_assign (.dat _) rfl) ?_
    refine awp_ret ?_
    exact ⟨trivial, .inl (congrArg vint (by rw [hci]; exact fe_end hu (by omega) hk)), trivial⟩
structure Bud where
  w : Int
  l : Int
  p : Int
abbrev budV (b : Bud) : List V := [vint b.w, vint b.l, vint b.p]
def budB (b : Bud) : Bool := outB b.w 1 3600000 || outB b.l 0 300 || outB b.p 0 1000
def budF (b : Bud) : Int := if budB b then 1 else 0
structure Otl where
  f : Int
  b : Int
  m : Int
  s : Int
abbrev otlV (o : Otl) : List V := [vint o.f, vint o.b, vint o.m, vint o.s]
def otlB (o : Otl) : Bool := outB o.f 1 100 || outB o.b 1 o.m || decide (3600000 < o.m) || outB o.s 0 1000
def otlF (o : Otl) : Int := if otlB o then 1 else 0
theorem k_upstream_CheckBudget (b : Bud)  : Fn Try.prog 64 [vagg (budV b)] (resOf [vint (budF b)]) := by
  refine ⟨by kernel_rfl, pure_of (us := [vint (budF b)]) Try.func64 rfl rfl rfl rfl fun X hN => ?_⟩
  refine awp_seq ?_
  refine awp_plain hN rfl ?_
  refine seq_run2 (stp_boxA 1 rfl) rfl ?_
  refine seq_run0 (stp_assign (.dat _) rfl) ?_
  refine awp_seq ?_
  refine awp_rjP [(15, .dat (vbool (budB b)))] hN rfl ?_ ?_
  · -- region 1
    first | refine seq_run0 (stp_fldP tyF50_0 rfl) ?_ | refine seq_run0 (stp_fldE tyF50_0 rfl) ?_ | refine seq_run0 (stp_fldR tyF50_0 rfl) ?_
    first | refine seq_run1 (stp_load1 tyS3 rfl rfl) rfl ?_ | refine seq_run0 (stp_loadE1 tyS3 rfl (by first | assumption | rfl) rfl) ?_ | refine seq_run1 (stp_loadR1 tyS3 rfl (by first | rfl | omega | simp) (by first | assumption | exact List.getElem?_set_self (by simp; omega)) rfl) rfl ?_
    refine seq_run0 (stp_call (k_kit_Outside _ _ _) ⟨.inl rfl, .inl rfl, .inl rfl, trivial⟩) ?_
    first | refine seq_run0 (stp_move (.dat _) rfl) ?_ | refine seq_run0 (stp_move (.ptr _ _) rfl) ?_ | refine seq_run0 (stp_move (.row _ _) rfl) ?_ | refine seq_run0 (stp_move (.rptr _ _ _ _ _) rfl) ?_ | refine seq_run0 (stp_move (.mp _) rfl) ?_
    refine seq_split (j := 3) rfl rfl (fun h1 => ?_) (fun h1 => ?_) rfl
    · -- guard (3, False): runs
      have qh1 := h1
      try simp at qh1
      first | refine seq_g0 rfl rfl h1 (stp_fldP tyF50_1 rfl) ?_ | refine seq_g0 rfl rfl h1 (stp_fldE tyF50_1 rfl) ?_ | refine seq_g0 rfl rfl h1 (stp_fldR tyF50_1 rfl) ?_
      first | refine seq_g1 rfl rfl h1 (stp_load1 tyS3 rfl rfl) rfl ?_ | refine seq_g0 rfl rfl h1 (stp_loadE1 tyS3 rfl (by first | assumption | rfl) rfl) ?_ | refine seq_g1 rfl rfl h1 (stp_loadR1 tyS3 rfl (by first | rfl | omega | simp) (by first | assumption | exact List.getElem?_set_self (by simp; omega)) rfl) rfl ?_
      refine seq_g0 rfl rfl h1 (stp_call (k_kit_Outside _ _ _) ⟨.inl rfl, .inl rfl, .inl rfl, trivial⟩) ?_
      refine seq_run0 (stp_pick_f rfl h1 rfl) ?_
      first | refine seq_run0 (stp_move (.dat _) rfl) ?_ | refine seq_run0 (stp_move (.ptr _ _) rfl) ?_ | refine seq_run0 (stp_move (.row _ _) rfl) ?_ | refine seq_run0 (stp_move (.rptr _ _ _ _ _) rfl) ?_ | refine seq_run0 (stp_move (.mp _) rfl) ?_
      refine seq_split (j := 8) rfl rfl (fun h2 => ?_) (fun h2 => ?_) rfl
      · -- guard (8, False): runs
        have qh2 := h2
        try simp at qh2
        first | refine seq_g0 rfl rfl h2 (stp_fldP tyF50_2 rfl) ?_ | refine seq_g0 rfl rfl h2 (stp_fldE tyF50_2 rfl) ?_ | refine seq_g0 rfl rfl h2 (stp_fldR tyF50_2 rfl) ?_
        first | refine seq_g1 rfl rfl h2 (stp_load1 tyS3 rfl rfl) rfl ?_ | refine seq_g0 rfl rfl h2 (stp_loadE1 tyS3 rfl (by first | assumption | rfl) rfl) ?_ | refine seq_g1 rfl rfl h2 (stp_loadR1 tyS3 rfl (by first | rfl | omega | simp) (by first | assumption | exact List.getElem?_set_self (by simp; omega)) rfl) rfl ?_
        refine seq_g0 rfl rfl h2 (stp_call (k_kit_Outside _ _ _) ⟨.inl rfl, .inl rfl, .inl rfl, trivial⟩) ?_
        refine seq_run0 (stp_pick_f rfl h2 rfl) ?_
        exact ⟨rfl, jb (by unfold budB; simp_all [out_in] <;> (intros; omega)), trivial⟩
      · -- guard (8, False): is left out
        have qh2 := h2
        try simp at qh2
        refine seq_skip rfl rfl h2 ?_
        refine seq_skip rfl rfl h2 ?_
        refine seq_skip rfl rfl h2 ?_
        refine seq_run0 (stp_pick_t' rfl h2 rfl) ?_
        exact ⟨rfl, jb (by unfold budB; simp_all [out_in] <;> (intros; omega)), trivial⟩
    · -- guard (3, False): is left out
      have qh1 := h1
      try simp at qh1
      refine seq_skip rfl rfl h1 ?_
      refine seq_skip rfl rfl h1 ?_
      refine seq_skip rfl rfl h1 ?_
      refine seq_run0 (stp_pick_t' rfl h1 rfl) ?_
      first | refine seq_run0 (stp_move (.dat _) rfl) ?_ | refine seq_run0 (stp_move (.ptr _ _) rfl) ?_ | refine seq_run0 (stp_move (.row _ _) rfl) ?_ | refine seq_run0 (stp_move (.rptr _ _ _ _ _) rfl) ?_ | refine seq_run0 (stp_move (.mp _) rfl) ?_
      refine seq_skip rfl rfl rfl ?_
      refine seq_skip rfl rfl rfl ?_
      refine seq_skip rfl rfl rfl ?_
      refine seq_run0 (stp_pick_t rfl rfl rfl) ?_
      exact ⟨rfl, jb (by unfold budB; simp_all [out_in] <;> (intros; omega)), trivial⟩
  · -- behind region 1
    refine awp_cond _ rfl (fun h3 => ?_) (fun h3 => ?_)
    · -- yes
      try simp at h3
      refine awp_seq ?_
      refine awp_plain hN rfl ?_
      refine seq_run0 (stp_assign (.dat _) rfl) ?_
      refine awp_ret ?_
      exact ⟨trivial, .inl (congrArg vint (by unfold budF; simp_all)), trivial⟩
    · -- no
      try simp at h3
      refine awp_skip ?_
      refine awp_seq ?_
      refine awp_plain hN rfl ?_
      refine seq_run0 (stp_assign (.dat _) rfl) ?_
      refine awp_ret ?_
      exact ⟨trivial, .inl (congrArg vint (by unfold budF; simp_all)), trivial⟩
theorem k_gateref2_BudgetFault (b : Bud)  : Fn Try.prog 63 [vagg (budV b)] (resOf [vint (budF b)]) := by
  refine ⟨by kernel_rfl, pure_of (us := [vint (budF b)]) Try.func63 rfl rfl rfl rfl fun X hN => ?_⟩
  refine awp_seq ?_
  refine awp_plain hN rfl ?_
  refine seq_run2 (stp_boxA 1 rfl) rfl ?_
  refine seq_run0 (stp_assign (.dat _) rfl) ?_
  refine awp_seq ?_
  refine awp_rjP [(18, .dat (vbool (budB b)))] hN rfl ?_ ?_
  · -- region 1
    first | refine seq_run0 (stp_fldP tyF50_0 rfl) ?_ | refine seq_run0 (stp_fldE tyF50_0 rfl) ?_ | refine seq_run0 (stp_fldR tyF50_0 rfl) ?_
    first | refine seq_run1 (stp_load1 tyS3 rfl rfl) rfl ?_ | refine seq_run0 (stp_loadE1 tyS3 rfl (by first | assumption | rfl) rfl) ?_ | refine seq_run1 (stp_loadR1 tyS3 rfl (by first | rfl | omega | simp) (by first | assumption | exact List.getElem?_set_self (by simp; omega)) rfl) rfl ?_
    refine seq_run0 (stp_call (k_gateref2_in _ _ _) ⟨.inl rfl, .inl rfl, .inl rfl, trivial⟩) ?_
    refine seq_run0 (stp_not rfl) ?_
    first | refine seq_run0 (stp_move (.dat _) rfl) ?_ | refine seq_run0 (stp_move (.ptr _ _) rfl) ?_ | refine seq_run0 (stp_move (.row _ _) rfl) ?_ | refine seq_run0 (stp_move (.rptr _ _ _ _ _) rfl) ?_ | refine seq_run0 (stp_move (.mp _) rfl) ?_
    refine seq_split (j := 4) rfl rfl (fun h1 => ?_) (fun h1 => ?_) rfl
    · -- guard (4, False): runs
      have qh1 := h1
      try simp at qh1
      first | refine seq_g0 rfl rfl h1 (stp_fldP tyF50_1 rfl) ?_ | refine seq_g0 rfl rfl h1 (stp_fldE tyF50_1 rfl) ?_ | refine seq_g0 rfl rfl h1 (stp_fldR tyF50_1 rfl) ?_
      first | refine seq_g1 rfl rfl h1 (stp_load1 tyS3 rfl rfl) rfl ?_ | refine seq_g0 rfl rfl h1 (stp_loadE1 tyS3 rfl (by first | assumption | rfl) rfl) ?_ | refine seq_g1 rfl rfl h1 (stp_loadR1 tyS3 rfl (by first | rfl | omega | simp) (by first | assumption | exact List.getElem?_set_self (by simp; omega)) rfl) rfl ?_
      refine seq_g0 rfl rfl h1 (stp_call (k_gateref2_in _ _ _) ⟨.inl rfl, .inl rfl, .inl rfl, trivial⟩) ?_
      refine seq_g0 rfl rfl h1 (stp_not rfl) ?_
      refine seq_run0 (stp_pick_f rfl h1 rfl) ?_
      first | refine seq_run0 (stp_move (.dat _) rfl) ?_ | refine seq_run0 (stp_move (.ptr _ _) rfl) ?_ | refine seq_run0 (stp_move (.row _ _) rfl) ?_ | refine seq_run0 (stp_move (.rptr _ _ _ _ _) rfl) ?_ | refine seq_run0 (stp_move (.mp _) rfl) ?_
      refine seq_split (j := 10) rfl rfl (fun h2 => ?_) (fun h2 => ?_) rfl
      · -- guard (10, False): runs
        have qh2 := h2
        try simp at qh2
        first | refine seq_g0 rfl rfl h2 (stp_fldP tyF50_2 rfl) ?_ | refine seq_g0 rfl rfl h2 (stp_fldE tyF50_2 rfl) ?_ | refine seq_g0 rfl rfl h2 (stp_fldR tyF50_2 rfl) ?_
        first | refine seq_g1 rfl rfl h2 (stp_load1 tyS3 rfl rfl) rfl ?_ | refine seq_g0 rfl rfl h2 (stp_loadE1 tyS3 rfl (by first | assumption | rfl) rfl) ?_ | refine seq_g1 rfl rfl h2 (stp_loadR1 tyS3 rfl (by first | rfl | omega | simp) (by first | assumption | exact List.getElem?_set_self (by simp; omega)) rfl) rfl ?_
        refine seq_g0 rfl rfl h2 (stp_call (k_gateref2_in _ _ _) ⟨.inl rfl, .inl rfl, .inl rfl, trivial⟩) ?_
        refine seq_g0 rfl rfl h2 (stp_not rfl) ?_
        refine seq_run0 (stp_pick_f rfl h2 rfl) ?_
        exact ⟨rfl, jb (by unfold budB; simp_all [out_in] <;> (intros; omega)), trivial⟩
      · -- guard (10, False): is left out
        have qh2 := h2
        try simp at qh2
        refine seq_skip rfl rfl h2 ?_
        refine seq_skip rfl rfl h2 ?_
        refine seq_skip rfl rfl h2 ?_
        refine seq_skip rfl rfl h2 ?_
        refine seq_run0 (stp_pick_t' rfl h2 rfl) ?_
        exact ⟨rfl, jb (by unfold budB; simp_all [out_in] <;> (intros; omega)), trivial⟩
    · -- guard (4, False): is left out
      have qh1 := h1
      try simp at qh1
      refine seq_skip rfl rfl h1 ?_
      refine seq_skip rfl rfl h1 ?_
      refine seq_skip rfl rfl h1 ?_
      refine seq_skip rfl rfl h1 ?_
      refine seq_run0 (stp_pick_t' rfl h1 rfl) ?_
      first | refine seq_run0 (stp_move (.dat _) rfl) ?_ | refine seq_run0 (stp_move (.ptr _ _) rfl) ?_ | refine seq_run0 (stp_move (.row _ _) rfl) ?_ | refine seq_run0 (stp_move (.rptr _ _ _ _ _) rfl) ?_ | refine seq_run0 (stp_move (.mp _) rfl) ?_
      refine seq_skip rfl rfl rfl ?_
      refine seq_skip rfl rfl rfl ?_
      refine seq_skip rfl rfl rfl ?_
      refine seq_skip rfl rfl rfl ?_
      refine seq_run0 (stp_pick_t rfl rfl rfl) ?_
      exact ⟨rfl, jb (by unfold budB; simp_all [out_in] <;> (intros; omega)), trivial⟩
  · -- behind region 1
    refine awp_cond _ rfl (fun h3 => ?_) (fun h3 => ?_)
    · -- yes
      try simp at h3
      refine awp_seq ?_
      refine awp_plain hN rfl ?_
      refine seq_run0 (stp_assign (.dat _) rfl) ?_
      refine awp_ret ?_
      exact ⟨trivial, .inl (congrArg vint (by unfold budF; simp_all)), trivial⟩
    · -- no
      try simp at h3
      refine awp_skip ?_
      refine awp_seq ?_
      refine awp_plain hN rfl ?_
      refine seq_run0 (stp_assign (.dat _) rfl) ?_
      refine awp_ret ?_
      exact ⟨trivial, .inl (congrArg vint (by unfold budF; simp_all)), trivial⟩
theorem k_upstream_outliersFault (o : Otl)  : Fn Try.prog 91 [vagg (otlV o)] (resOf [vint (otlF o)]) := by
  refine ⟨by kernel_rfl, pure_of (us := [vint (otlF o)]) Try.func91 rfl rfl rfl rfl fun X hN => ?_⟩
  refine awp_seq ?_
  refine awp_plain hN rfl ?_
  refine seq_run2 (stp_boxA 1 rfl) rfl ?_
  refine seq_run0 (stp_assign (.dat _) rfl) ?_
  refine awp_seq ?_
  refine awp_rjP [(22, .dat (vbool (otlB o)))] hN rfl ?_ ?_
  · -- region 1
    first | refine seq_run0 (stp_fldP tyF52_0 rfl) ?_ | refine seq_run0 (stp_fldE tyF52_0 rfl) ?_ | refine seq_run0 (stp_fldR tyF52_0 rfl) ?_
    first | refine seq_run1 (stp_load1 tyS3 rfl rfl) rfl ?_ | refine seq_run0 (stp_loadE1 tyS3 rfl (by first | assumption | rfl) rfl) ?_ | refine seq_run1 (stp_loadR1 tyS3 rfl (by first | rfl | omega | simp) (by first | assumption | exact List.getElem?_set_self (by simp; omega)) rfl) rfl ?_
    refine seq_run0 (stp_call (k_kit_Outside _ _ _) ⟨.inl rfl, .inl rfl, .inl rfl, trivial⟩) ?_
    first | refine seq_run0 (stp_move (.dat _) rfl) ?_ | refine seq_run0 (stp_move (.ptr _ _) rfl) ?_ | refine seq_run0 (stp_move (.row _ _) rfl) ?_ | refine seq_run0 (stp_move (.rptr _ _ _ _ _) rfl) ?_ | refine seq_run0 (stp_move (.mp _) rfl) ?_
    refine seq_split (j := 3) rfl rfl (fun h1 => ?_) (fun h1 => ?_) rfl
    · -- guard (3, False): runs
      have qh1 := h1
      try simp at qh1
      first | refine seq_g0 rfl rfl h1 (stp_fldP tyF52_1 rfl) ?_ | refine seq_g0 rfl rfl h1 (stp_fldE tyF52_1 rfl) ?_ | refine seq_g0 rfl rfl h1 (stp_fldR tyF52_1 rfl) ?_
      first | refine seq_g1 rfl rfl h1 (stp_load1 tyS3 rfl rfl) rfl ?_ | refine seq_g0 rfl rfl h1 (stp_loadE1 tyS3 rfl (by first | assumption | rfl) rfl) ?_ | refine seq_g1 rfl rfl h1 (stp_loadR1 tyS3 rfl (by first | rfl | omega | simp) (by first | assumption | exact List.getElem?_set_self (by simp; omega)) rfl) rfl ?_
      first | refine seq_g0 rfl rfl h1 (stp_fldP tyF52_2 rfl) ?_ | refine seq_g0 rfl rfl h1 (stp_fldE tyF52_2 rfl) ?_ | refine seq_g0 rfl rfl h1 (stp_fldR tyF52_2 rfl) ?_
      first | refine seq_g1 rfl rfl h1 (stp_load1 tyS3 rfl rfl) rfl ?_ | refine seq_g0 rfl rfl h1 (stp_loadE1 tyS3 rfl (by first | assumption | rfl) rfl) ?_ | refine seq_g1 rfl rfl h1 (stp_loadR1 tyS3 rfl (by first | rfl | omega | simp) (by first | assumption | exact List.getElem?_set_self (by simp; omega)) rfl) rfl ?_
      refine seq_g0 rfl rfl h1 (stp_call (k_kit_Outside _ _ _) ⟨.inl rfl, .inl rfl, .inl rfl, trivial⟩) ?_
      refine seq_run0 (stp_pick_f rfl h1 rfl) ?_
      first | refine seq_run0 (stp_move (.dat _) rfl) ?_ | refine seq_run0 (stp_move (.ptr _ _) rfl) ?_ | refine seq_run0 (stp_move (.row _ _) rfl) ?_ | refine seq_run0 (stp_move (.rptr _ _ _ _ _) rfl) ?_ | refine seq_run0 (stp_move (.mp _) rfl) ?_
      refine seq_split (j := 10) rfl rfl (fun h2 => ?_) (fun h2 => ?_) rfl
      · -- guard (10, False): runs
        have qh2 := h2
        try simp at qh2
        first | refine seq_g0 rfl rfl h2 (stp_fldP tyF52_2 rfl) ?_ | refine seq_g0 rfl rfl h2 (stp_fldE tyF52_2 rfl) ?_ | refine seq_g0 rfl rfl h2 (stp_fldR tyF52_2 rfl) ?_
        first | refine seq_g1 rfl rfl h2 (stp_load1 tyS3 rfl rfl) rfl ?_ | refine seq_g0 rfl rfl h2 (stp_loadE1 tyS3 rfl (by first | assumption | rfl) rfl) ?_ | refine seq_g1 rfl rfl h2 (stp_loadR1 tyS3 rfl (by first | rfl | omega | simp) (by first | assumption | exact List.getElem?_set_self (by simp; omega)) rfl) rfl ?_
        refine seq_g0 rfl rfl h2 (stp_gtr rfl rfl) ?_
        refine seq_run0 (stp_pick_f rfl h2 rfl) ?_
        first | refine seq_run0 (stp_move (.dat _) rfl) ?_ | refine seq_run0 (stp_move (.ptr _ _) rfl) ?_ | refine seq_run0 (stp_move (.row _ _) rfl) ?_ | refine seq_run0 (stp_move (.rptr _ _ _ _ _) rfl) ?_ | refine seq_run0 (stp_move (.mp _) rfl) ?_
        refine seq_split (j := 15) rfl rfl (fun h3 => ?_) (fun h3 => ?_) rfl
        · -- guard (15, False): runs
          have qh3 := h3
          try simp at qh3
          first | refine seq_g0 rfl rfl h3 (stp_fldP tyF52_3 rfl) ?_ | refine seq_g0 rfl rfl h3 (stp_fldE tyF52_3 rfl) ?_ | refine seq_g0 rfl rfl h3 (stp_fldR tyF52_3 rfl) ?_
          first | refine seq_g1 rfl rfl h3 (stp_load1 tyS3 rfl rfl) rfl ?_ | refine seq_g0 rfl rfl h3 (stp_loadE1 tyS3 rfl (by first | assumption | rfl) rfl) ?_ | refine seq_g1 rfl rfl h3 (stp_loadR1 tyS3 rfl (by first | rfl | omega | simp) (by first | assumption | exact List.getElem?_set_self (by simp; omega)) rfl) rfl ?_
          refine seq_g0 rfl rfl h3 (stp_call (k_kit_Outside _ _ _) ⟨.inl rfl, .inl rfl, .inl rfl, trivial⟩) ?_
          refine seq_run0 (stp_pick_f rfl h3 rfl) ?_
          exact ⟨rfl, jb (by unfold otlB; simp_all [out_in] <;> (intros; omega)), trivial⟩
        · -- guard (15, False): is left out
          have qh3 := h3
          try simp at qh3
          refine seq_skip rfl rfl h3 ?_
          refine seq_skip rfl rfl h3 ?_
          refine seq_skip rfl rfl h3 ?_
          refine seq_run0 (stp_pick_t' rfl h3 rfl) ?_
          exact ⟨rfl, jb (by unfold otlB; simp_all [out_in] <;> (intros; omega)), trivial⟩
      · -- guard (10, False): is left out
        have qh2 := h2
        try simp at qh2
        refine seq_skip rfl rfl h2 ?_
        refine seq_skip rfl rfl h2 ?_
        refine seq_skip rfl rfl h2 ?_
        refine seq_run0 (stp_pick_t' rfl h2 rfl) ?_
        first | refine seq_run0 (stp_move (.dat _) rfl) ?_ | refine seq_run0 (stp_move (.ptr _ _) rfl) ?_ | refine seq_run0 (stp_move (.row _ _) rfl) ?_ | refine seq_run0 (stp_move (.rptr _ _ _ _ _) rfl) ?_ | refine seq_run0 (stp_move (.mp _) rfl) ?_
        refine seq_skip rfl rfl rfl ?_
        refine seq_skip rfl rfl rfl ?_
        refine seq_skip rfl rfl rfl ?_
        refine seq_run0 (stp_pick_t rfl rfl rfl) ?_
        exact ⟨rfl, jb (by unfold otlB; simp_all [out_in] <;> (intros; omega)), trivial⟩
    · -- guard (3, False): is left out
      have qh1 := h1
      try simp at qh1
      refine seq_skip rfl rfl h1 ?_
      refine seq_skip rfl rfl h1 ?_
      refine seq_skip rfl rfl h1 ?_
      refine seq_skip rfl rfl h1 ?_
      refine seq_skip rfl rfl h1 ?_
      refine seq_run0 (stp_pick_t' rfl h1 rfl) ?_
      first | refine seq_run0 (stp_move (.dat _) rfl) ?_ | refine seq_run0 (stp_move (.ptr _ _) rfl) ?_ | refine seq_run0 (stp_move (.row _ _) rfl) ?_ | refine seq_run0 (stp_move (.rptr _ _ _ _ _) rfl) ?_ | refine seq_run0 (stp_move (.mp _) rfl) ?_
      refine seq_skip rfl rfl rfl ?_
      refine seq_skip rfl rfl rfl ?_
      refine seq_skip rfl rfl rfl ?_
      refine seq_run0 (stp_pick_t rfl rfl rfl) ?_
      first | refine seq_run0 (stp_move (.dat _) rfl) ?_ | refine seq_run0 (stp_move (.ptr _ _) rfl) ?_ | refine seq_run0 (stp_move (.row _ _) rfl) ?_ | refine seq_run0 (stp_move (.rptr _ _ _ _ _) rfl) ?_ | refine seq_run0 (stp_move (.mp _) rfl) ?_
      refine seq_skip rfl rfl rfl ?_
      refine seq_skip rfl rfl rfl ?_
      refine seq_skip rfl rfl rfl ?_
      refine seq_run0 (stp_pick_t rfl rfl rfl) ?_
      exact ⟨rfl, jb (by unfold otlB; simp_all [out_in] <;> (intros; omega)), trivial⟩
  · -- behind region 1
    refine awp_cond _ rfl (fun h4 => ?_) (fun h4 => ?_)
    · -- yes
      try simp at h4
      refine awp_seq ?_
      refine awp_plain hN rfl ?_
      refine seq_run0 (stp_assign (.dat _) rfl) ?_
      refine awp_ret ?_
      exact ⟨trivial, .inl (congrArg vint (by unfold otlF; simp_all)), trivial⟩
    · -- no
      try simp at h4
      refine awp_skip ?_
      refine awp_seq ?_
      refine awp_plain hN rfl ?_
      refine seq_run0 (stp_assign (.dat _) rfl) ?_
      refine awp_ret ?_
      exact ⟨trivial, .inl (congrArg vint (by unfold otlF; simp_all)), trivial⟩
theorem k_gateref2_OutliersFault (o : Otl)  : Fn Try.prog 53 [vagg (otlV o)] (resOf [vint (otlF o)]) := by
  refine ⟨by kernel_rfl, pure_of (us := [vint (otlF o)]) Try.func53 rfl rfl rfl rfl fun X hN => ?_⟩
  refine awp_seq ?_
  refine awp_plain hN rfl ?_
  refine seq_run2 (stp_boxA 1 rfl) rfl ?_
  refine seq_run0 (stp_assign (.dat _) rfl) ?_
  refine awp_seq ?_
  refine awp_rjP [(25, .dat (vbool (otlB o)))] hN rfl ?_ ?_
  · -- region 1
    first | refine seq_run0 (stp_fldP tyF52_0 rfl) ?_ | refine seq_run0 (stp_fldE tyF52_0 rfl) ?_ | refine seq_run0 (stp_fldR tyF52_0 rfl) ?_
    first | refine seq_run1 (stp_load1 tyS3 rfl rfl) rfl ?_ | refine seq_run0 (stp_loadE1 tyS3 rfl (by first | assumption | rfl) rfl) ?_ | refine seq_run1 (stp_loadR1 tyS3 rfl (by first | rfl | omega | simp) (by first | assumption | exact List.getElem?_set_self (by simp; omega)) rfl) rfl ?_
    refine seq_run0 (stp_call (k_gateref2_in _ _ _) ⟨.inl rfl, .inl rfl, .inl rfl, trivial⟩) ?_
    refine seq_run0 (stp_not rfl) ?_
    first | refine seq_run0 (stp_move (.dat _) rfl) ?_ | refine seq_run0 (stp_move (.ptr _ _) rfl) ?_ | refine seq_run0 (stp_move (.row _ _) rfl) ?_ | refine seq_run0 (stp_move (.rptr _ _ _ _ _) rfl) ?_ | refine seq_run0 (stp_move (.mp _) rfl) ?_
    refine seq_split (j := 4) rfl rfl (fun h1 => ?_) (fun h1 => ?_) rfl
    · -- guard (4, False): runs
      have qh1 := h1
      try simp at qh1
      first | refine seq_g0 rfl rfl h1 (stp_fldP tyF52_1 rfl) ?_ | refine seq_g0 rfl rfl h1 (stp_fldE tyF52_1 rfl) ?_ | refine seq_g0 rfl rfl h1 (stp_fldR tyF52_1 rfl) ?_
      first | refine seq_g1 rfl rfl h1 (stp_load1 tyS3 rfl rfl) rfl ?_ | refine seq_g0 rfl rfl h1 (stp_loadE1 tyS3 rfl (by first | assumption | rfl) rfl) ?_ | refine seq_g1 rfl rfl h1 (stp_loadR1 tyS3 rfl (by first | rfl | omega | simp) (by first | assumption | exact List.getElem?_set_self (by simp; omega)) rfl) rfl ?_
      first | refine seq_g0 rfl rfl h1 (stp_fldP tyF52_2 rfl) ?_ | refine seq_g0 rfl rfl h1 (stp_fldE tyF52_2 rfl) ?_ | refine seq_g0 rfl rfl h1 (stp_fldR tyF52_2 rfl) ?_
      first | refine seq_g1 rfl rfl h1 (stp_load1 tyS3 rfl rfl) rfl ?_ | refine seq_g0 rfl rfl h1 (stp_loadE1 tyS3 rfl (by first | assumption | rfl) rfl) ?_ | refine seq_g1 rfl rfl h1 (stp_loadR1 tyS3 rfl (by first | rfl | omega | simp) (by first | assumption | exact List.getElem?_set_self (by simp; omega)) rfl) rfl ?_
      refine seq_g0 rfl rfl h1 (stp_call (k_gateref2_in _ _ _) ⟨.inl rfl, .inl rfl, .inl rfl, trivial⟩) ?_
      refine seq_g0 rfl rfl h1 (stp_not rfl) ?_
      refine seq_run0 (stp_pick_f rfl h1 rfl) ?_
      first | refine seq_run0 (stp_move (.dat _) rfl) ?_ | refine seq_run0 (stp_move (.ptr _ _) rfl) ?_ | refine seq_run0 (stp_move (.row _ _) rfl) ?_ | refine seq_run0 (stp_move (.rptr _ _ _ _ _) rfl) ?_ | refine seq_run0 (stp_move (.mp _) rfl) ?_
      refine seq_split (j := 12) rfl rfl (fun h2 => ?_) (fun h2 => ?_) rfl
      · -- guard (12, False): runs
        have qh2 := h2
        try simp at qh2
        first | refine seq_g0 rfl rfl h2 (stp_fldP tyF52_2 rfl) ?_ | refine seq_g0 rfl rfl h2 (stp_fldE tyF52_2 rfl) ?_ | refine seq_g0 rfl rfl h2 (stp_fldR tyF52_2 rfl) ?_
        first | refine seq_g1 rfl rfl h2 (stp_load1 tyS3 rfl rfl) rfl ?_ | refine seq_g0 rfl rfl h2 (stp_loadE1 tyS3 rfl (by first | assumption | rfl) rfl) ?_ | refine seq_g1 rfl rfl h2 (stp_loadR1 tyS3 rfl (by first | rfl | omega | simp) (by first | assumption | exact List.getElem?_set_self (by simp; omega)) rfl) rfl ?_
        refine seq_g0 rfl rfl h2 (stp_gtr rfl rfl) ?_
        refine seq_run0 (stp_pick_f rfl h2 rfl) ?_
        first | refine seq_run0 (stp_move (.dat _) rfl) ?_ | refine seq_run0 (stp_move (.ptr _ _) rfl) ?_ | refine seq_run0 (stp_move (.row _ _) rfl) ?_ | refine seq_run0 (stp_move (.rptr _ _ _ _ _) rfl) ?_ | refine seq_run0 (stp_move (.mp _) rfl) ?_
        refine seq_split (j := 17) rfl rfl (fun h3 => ?_) (fun h3 => ?_) rfl
        · -- guard (17, False): runs
          have qh3 := h3
          try simp at qh3
          first | refine seq_g0 rfl rfl h3 (stp_fldP tyF52_3 rfl) ?_ | refine seq_g0 rfl rfl h3 (stp_fldE tyF52_3 rfl) ?_ | refine seq_g0 rfl rfl h3 (stp_fldR tyF52_3 rfl) ?_
          first | refine seq_g1 rfl rfl h3 (stp_load1 tyS3 rfl rfl) rfl ?_ | refine seq_g0 rfl rfl h3 (stp_loadE1 tyS3 rfl (by first | assumption | rfl) rfl) ?_ | refine seq_g1 rfl rfl h3 (stp_loadR1 tyS3 rfl (by first | rfl | omega | simp) (by first | assumption | exact List.getElem?_set_self (by simp; omega)) rfl) rfl ?_
          refine seq_g0 rfl rfl h3 (stp_call (k_gateref2_in _ _ _) ⟨.inl rfl, .inl rfl, .inl rfl, trivial⟩) ?_
          refine seq_g0 rfl rfl h3 (stp_not rfl) ?_
          refine seq_run0 (stp_pick_f rfl h3 rfl) ?_
          exact ⟨rfl, jb (by unfold otlB; simp_all [out_in] <;> (intros; omega)), trivial⟩
        · -- guard (17, False): is left out
          have qh3 := h3
          try simp at qh3
          refine seq_skip rfl rfl h3 ?_
          refine seq_skip rfl rfl h3 ?_
          refine seq_skip rfl rfl h3 ?_
          refine seq_skip rfl rfl h3 ?_
          refine seq_run0 (stp_pick_t' rfl h3 rfl) ?_
          exact ⟨rfl, jb (by unfold otlB; simp_all [out_in] <;> (intros; omega)), trivial⟩
      · -- guard (12, False): is left out
        have qh2 := h2
        try simp at qh2
        refine seq_skip rfl rfl h2 ?_
        refine seq_skip rfl rfl h2 ?_
        refine seq_skip rfl rfl h2 ?_
        refine seq_run0 (stp_pick_t' rfl h2 rfl) ?_
        first | refine seq_run0 (stp_move (.dat _) rfl) ?_ | refine seq_run0 (stp_move (.ptr _ _) rfl) ?_ | refine seq_run0 (stp_move (.row _ _) rfl) ?_ | refine seq_run0 (stp_move (.rptr _ _ _ _ _) rfl) ?_ | refine seq_run0 (stp_move (.mp _) rfl) ?_
        refine seq_skip rfl rfl rfl ?_
        refine seq_skip rfl rfl rfl ?_
        refine seq_skip rfl rfl rfl ?_
        refine seq_skip rfl rfl rfl ?_
        refine seq_run0 (stp_pick_t rfl rfl rfl) ?_
        exact ⟨rfl, jb (by unfold otlB; simp_all [out_in] <;> (intros; omega)), trivial⟩
    · -- guard (4, False): is left out
      have qh1 := h1
      try simp at qh1
      refine seq_skip rfl rfl h1 ?_
      refine seq_skip rfl rfl h1 ?_
      refine seq_skip rfl rfl h1 ?_
      refine seq_skip rfl rfl h1 ?_
      refine seq_skip rfl rfl h1 ?_
      refine seq_skip rfl rfl h1 ?_
      refine seq_run0 (stp_pick_t' rfl h1 rfl) ?_
      first | refine seq_run0 (stp_move (.dat _) rfl) ?_ | refine seq_run0 (stp_move (.ptr _ _) rfl) ?_ | refine seq_run0 (stp_move (.row _ _) rfl) ?_ | refine seq_run0 (stp_move (.rptr _ _ _ _ _) rfl) ?_ | refine seq_run0 (stp_move (.mp _) rfl) ?_
      refine seq_skip rfl rfl rfl ?_
      refine seq_skip rfl rfl rfl ?_
      refine seq_skip rfl rfl rfl ?_
      refine seq_run0 (stp_pick_t rfl rfl rfl) ?_
      first | refine seq_run0 (stp_move (.dat _) rfl) ?_ | refine seq_run0 (stp_move (.ptr _ _) rfl) ?_ | refine seq_run0 (stp_move (.row _ _) rfl) ?_ | refine seq_run0 (stp_move (.rptr _ _ _ _ _) rfl) ?_ | refine seq_run0 (stp_move (.mp _) rfl) ?_
      refine seq_skip rfl rfl rfl ?_
      refine seq_skip rfl rfl rfl ?_
      refine seq_skip rfl rfl rfl ?_
      refine seq_skip rfl rfl rfl ?_
      refine seq_run0 (stp_pick_t rfl rfl rfl) ?_
      exact ⟨rfl, jb (by unfold otlB; simp_all [out_in] <;> (intros; omega)), trivial⟩
  · -- behind region 1
    refine awp_cond _ rfl (fun h4 => ?_) (fun h4 => ?_)
    · -- yes
      try simp at h4
      refine awp_seq ?_
      refine awp_plain hN rfl ?_
      refine seq_run0 (stp_assign (.dat _) rfl) ?_
      refine awp_ret ?_
      exact ⟨trivial, .inl (congrArg vint (by unfold otlF; simp_all)), trivial⟩
    · -- no
      try simp at h4
      refine awp_skip ?_
      refine awp_seq ?_
      refine awp_plain hN rfl ?_
      refine seq_run0 (stp_assign (.dat _) rfl) ?_
      refine awp_ret ?_
      exact ⟨trivial, .inl (congrArg vint (by unfold otlF; simp_all)), trivial⟩
structure Stp5 where
  xs : List Inst
  tr : Int
  ti : Int
  wa : Int
  mw : Int
  bu : Bud
  ot : Otl
abbrev stpV (s : Stp5) : List V := [vlst (s.xs.map instE), vint s.tr, vint s.ti, vint s.wa, vint s.mw] ++ budV s.bu ++ otlV s.ot
def stpB (s : Stp5) : Bool := outB s.tr 1 5 || outB s.ti 1 3600000 || outB s.wa 0 s.mw || decide (3600000 < s.mw)
def stpF (s : Stp5) : Int := if ciFault s.xs = 0 then (if stpB s then 1 else if budF s.bu = 0 then otlF s.ot else budF s.bu) else ciFault s.xs
theorem k_upstream_CheckSetup (s : Stp5) (hok : InsOK s.xs)  : Fn Try.prog 28 [vagg (stpV s)] (resOf [vint (stpF s)]) := by
  refine ⟨by kernel_rfl, pure_of (us := [vint (stpF s)]) Try.func28 rfl rfl rfl rfl fun X hN => ?_⟩
  refine awp_seq ?_
  refine awp_plain hN rfl ?_
  refine seq_run2 (stp_boxA 1 rfl) rfl ?_
  refine seq_run0 (stp_assign (.dat _) rfl) ?_
  refine awp_seq ?_
  refine awp_seq ?_
  refine awp_plain hN rfl ?_
  first | refine seq_run0 (stp_fldP tyF54_0 rfl) ?_ | refine seq_run0 (stp_fldE tyF54_0 rfl) ?_ | refine seq_run0 (stp_fldR tyF54_0 rfl) ?_
  first | refine seq_run1 (stp_load1 tyS48 rfl rfl) rfl ?_ | refine seq_run0 (stp_loadE1 tyS48 rfl (by first | assumption | rfl) rfl) ?_ | refine seq_run1 (stp_loadR1 tyS48 rfl (by first | rfl | omega | simp) (by first | assumption | exact List.getElem?_set_self (by simp; omega)) rfl) rfl ?_
  refine seq_run0 (stp_call (k_upstream_CheckInstances _ hok) ⟨.inl rfl, trivial⟩) ?_
  first | refine seq_run0 (stp_assign (.dat _) rfl) ?_ | refine seq_run0 (stp_assign (.ptr _ _) rfl) ?_ | refine seq_run0 (stp_assign (.row _ _) rfl) ?_ | refine seq_run0 (stp_assign (.rptr _ _ _ _ _) rfl) ?_ | refine seq_run0 (stp_assign (.mp _) rfl) ?_
  refine awp_seq ?_
  refine awp_plain hN rfl ?_
  first | refine seq_run0 (stp_move (.dat _) rfl) ?_ | refine seq_run0 (stp_move (.ptr _ _) rfl) ?_ | refine seq_run0 (stp_move (.row _ _) rfl) ?_ | refine seq_run0 (stp_move (.rptr _ _ _ _ _) rfl) ?_ | refine seq_run0 (stp_move (.mp _) rfl) ?_
  refine seq_run0 (stp_neq rfl rfl) ?_
  refine awp_cond _ rfl (fun h1 => ?_) (fun h1 => ?_)
  · -- yes
    try simp at h1
    refine awp_seq ?_
    refine awp_plain hN rfl ?_
    first | refine seq_run0 (stp_move (.dat _) rfl) ?_ | refine seq_run0 (stp_move (.ptr _ _) rfl) ?_ | refine seq_run0 (stp_move (.row _ _) rfl) ?_ | refine seq_run0 (stp_move (.rptr _ _ _ _ _) rfl) ?_ | refine seq_run0 (stp_move (.mp _) rfl) ?_
    first | refine seq_run0 (stp_assign (.dat _) rfl) ?_ | refine seq_run0 (stp_assign (.ptr _ _) rfl) ?_ | refine seq_run0 (stp_assign (.row _ _) rfl) ?_ | refine seq_run0 (stp_assign (.rptr _ _ _ _ _) rfl) ?_ | refine seq_run0 (stp_assign (.mp _) rfl) ?_
    refine awp_ret ?_
    exact ⟨trivial, .inl (congrArg vint (by unfold stpF; simp_all)), trivial⟩
  · -- no
    try simp at h1
    refine awp_skip ?_
    refine awp_seq ?_
    refine awp_rjP [(30, .dat (vbool (stpB s)))] hN rfl ?_ ?_
    · -- region 4
      first | refine seq_run0 (stp_fldP tyF54_1 rfl) ?_ | refine seq_run0 (stp_fldE tyF54_1 rfl) ?_ | refine seq_run0 (stp_fldR tyF54_1 rfl) ?_
      first | refine seq_run1 (stp_load1 tyS3 rfl rfl) rfl ?_ | refine seq_run0 (stp_loadE1 tyS3 rfl (by first | assumption | rfl) rfl) ?_ | refine seq_run1 (stp_loadR1 tyS3 rfl (by first | rfl | omega | simp) (by first | assumption | exact List.getElem?_set_self (by simp; omega)) rfl) rfl ?_
      refine seq_run0 (stp_call (k_kit_Outside _ _ _) ⟨.inl rfl, .inl rfl, .inl rfl, trivial⟩) ?_
      first | refine seq_run0 (stp_move (.dat _) rfl) ?_ | refine seq_run0 (stp_move (.ptr _ _) rfl) ?_ | refine seq_run0 (stp_move (.row _ _) rfl) ?_ | refine seq_run0 (stp_move (.rptr _ _ _ _ _) rfl) ?_ | refine seq_run0 (stp_move (.mp _) rfl) ?_
      refine seq_split (j := 3) rfl rfl (fun h2 => ?_) (fun h2 => ?_) rfl
      · -- guard (3, False): runs
        have qh2 := h2
        try simp at qh2
        first | refine seq_g0 rfl rfl h2 (stp_fldP tyF54_2 rfl) ?_ | refine seq_g0 rfl rfl h2 (stp_fldE tyF54_2 rfl) ?_ | refine seq_g0 rfl rfl h2 (stp_fldR tyF54_2 rfl) ?_
        first | refine seq_g1 rfl rfl h2 (stp_load1 tyS3 rfl rfl) rfl ?_ | refine seq_g0 rfl rfl h2 (stp_loadE1 tyS3 rfl (by first | assumption | rfl) rfl) ?_ | refine seq_g1 rfl rfl h2 (stp_loadR1 tyS3 rfl (by first | rfl | omega | simp) (by first | assumption | exact List.getElem?_set_self (by simp; omega)) rfl) rfl ?_
        refine seq_g0 rfl rfl h2 (stp_call (k_kit_Outside _ _ _) ⟨.inl rfl, .inl rfl, .inl rfl, trivial⟩) ?_
        refine seq_run0 (stp_pick_f rfl h2 rfl) ?_
        first | refine seq_run0 (stp_move (.dat _) rfl) ?_ | refine seq_run0 (stp_move (.ptr _ _) rfl) ?_ | refine seq_run0 (stp_move (.row _ _) rfl) ?_ | refine seq_run0 (stp_move (.rptr _ _ _ _ _) rfl) ?_ | refine seq_run0 (stp_move (.mp _) rfl) ?_
        refine seq_split (j := 8) rfl rfl (fun h3 => ?_) (fun h3 => ?_) rfl
        · -- guard (8, False): runs
          have qh3 := h3
          try simp at qh3
          first | refine seq_g0 rfl rfl h3 (stp_fldP tyF54_3 rfl) ?_ | refine seq_g0 rfl rfl h3 (stp_fldE tyF54_3 rfl) ?_ | refine seq_g0 rfl rfl h3 (stp_fldR tyF54_3 rfl) ?_
          first | refine seq_g1 rfl rfl h3 (stp_load1 tyS3 rfl rfl) rfl ?_ | refine seq_g0 rfl rfl h3 (stp_loadE1 tyS3 rfl (by first | assumption | rfl) rfl) ?_ | refine seq_g1 rfl rfl h3 (stp_loadR1 tyS3 rfl (by first | rfl | omega | simp) (by first | assumption | exact List.getElem?_set_self (by simp; omega)) rfl) rfl ?_
          first | refine seq_g0 rfl rfl h3 (stp_fldP tyF54_4 rfl) ?_ | refine seq_g0 rfl rfl h3 (stp_fldE tyF54_4 rfl) ?_ | refine seq_g0 rfl rfl h3 (stp_fldR tyF54_4 rfl) ?_
          first | refine seq_g1 rfl rfl h3 (stp_load1 tyS3 rfl rfl) rfl ?_ | refine seq_g0 rfl rfl h3 (stp_loadE1 tyS3 rfl (by first | assumption | rfl) rfl) ?_ | refine seq_g1 rfl rfl h3 (stp_loadR1 tyS3 rfl (by first | rfl | omega | simp) (by first | assumption | exact List.getElem?_set_self (by simp; omega)) rfl) rfl ?_
          refine seq_g0 rfl rfl h3 (stp_call (k_kit_Outside _ _ _) ⟨.inl rfl, .inl rfl, .inl rfl, trivial⟩) ?_
          refine seq_run0 (stp_pick_f rfl h3 rfl) ?_
          first | refine seq_run0 (stp_move (.dat _) rfl) ?_ | refine seq_run0 (stp_move (.ptr _ _) rfl) ?_ | refine seq_run0 (stp_move (.row _ _) rfl) ?_ | refine seq_run0 (stp_move (.rptr _ _ _ _ _) rfl) ?_ | refine seq_run0 (stp_move (.mp _) rfl) ?_
          refine seq_split (j := 15) rfl rfl (fun h4 => ?_) (fun h4 => ?_) rfl
          · -- guard (15, False): runs
            have qh4 := h4
            try simp at qh4
            first | refine seq_g0 rfl rfl h4 (stp_fldP tyF54_4 rfl) ?_ | refine seq_g0 rfl rfl h4 (stp_fldE tyF54_4 rfl) ?_ | refine seq_g0 rfl rfl h4 (stp_fldR tyF54_4 rfl) ?_
            first | refine seq_g1 rfl rfl h4 (stp_load1 tyS3 rfl rfl) rfl ?_ | refine seq_g0 rfl rfl h4 (stp_loadE1 tyS3 rfl (by first | assumption | rfl) rfl) ?_ | refine seq_g1 rfl rfl h4 (stp_loadR1 tyS3 rfl (by first | rfl | omega | simp) (by first | assumption | exact List.getElem?_set_self (by simp; omega)) rfl) rfl ?_
            refine seq_g0 rfl rfl h4 (stp_gtr rfl rfl) ?_
            refine seq_run0 (stp_pick_f rfl h4 rfl) ?_
            exact ⟨rfl, jb (by unfold stpB; simp_all [out_in] <;> (intros; omega)), trivial⟩
          · -- guard (15, False): is left out
            have qh4 := h4
            try simp at qh4
            refine seq_skip rfl rfl h4 ?_
            refine seq_skip rfl rfl h4 ?_
            refine seq_skip rfl rfl h4 ?_
            refine seq_run0 (stp_pick_t' rfl h4 rfl) ?_
            exact ⟨rfl, jb (by unfold stpB; simp_all [out_in] <;> (intros; omega)), trivial⟩
        · -- guard (8, False): is left out
          have qh3 := h3
          try simp at qh3
          refine seq_skip rfl rfl h3 ?_
          refine seq_skip rfl rfl h3 ?_
          refine seq_skip rfl rfl h3 ?_
          refine seq_skip rfl rfl h3 ?_
          refine seq_skip rfl rfl h3 ?_
          refine seq_run0 (stp_pick_t' rfl h3 rfl) ?_
          first | refine seq_run0 (stp_move (.dat _) rfl) ?_ | refine seq_run0 (stp_move (.ptr _ _) rfl) ?_ | refine seq_run0 (stp_move (.row _ _) rfl) ?_ | refine seq_run0 (stp_move (.rptr _ _ _ _ _) rfl) ?_ | refine seq_run0 (stp_move (.mp _) rfl) ?_
          refine seq_skip rfl rfl rfl ?_
          refine seq_skip rfl rfl rfl ?_
          refine seq_skip rfl rfl rfl ?_
          refine seq_run0 (stp_pick_t rfl rfl rfl) ?_
          exact ⟨rfl, jb (by unfold stpB; simp_all [out_in] <;> (intros; omega)), trivial⟩
      · -- guard (3, False): is left out
        have qh2 := h2
        try simp at qh2
        refine seq_skip rfl rfl h2 ?_
        refine seq_skip rfl rfl h2 ?_
        refine seq_skip rfl rfl h2 ?_
        refine seq_run0 (stp_pick_t' rfl h2 rfl) ?_
        first | refine seq_run0 (stp_move (.dat _) rfl) ?_ | refine seq_run0 (stp_move (.ptr _ _) rfl) ?_ | refine seq_run0 (stp_move (.row _ _) rfl) ?_ | refine seq_run0 (stp_move (.rptr _ _ _ _ _) rfl) ?_ | refine seq_run0 (stp_move (.mp _) rfl) ?_
        refine seq_skip rfl rfl rfl ?_
        refine seq_skip rfl rfl rfl ?_
        refine seq_skip rfl rfl rfl ?_
        refine seq_skip rfl rfl rfl ?_
        refine seq_skip rfl rfl rfl ?_
        refine seq_run0 (stp_pick_t rfl rfl rfl) ?_
        first | refine seq_run0 (stp_move (.dat _) rfl) ?_ | refine seq_run0 (stp_move (.ptr _ _) rfl) ?_ | refine seq_run0 (stp_move (.row _ _) rfl) ?_ | refine seq_run0 (stp_move (.rptr _ _ _ _ _) rfl) ?_ | refine seq_run0 (stp_move (.mp _) rfl) ?_
        refine seq_skip rfl rfl rfl ?_
        refine seq_skip rfl rfl rfl ?_
        refine seq_skip rfl rfl rfl ?_
        refine seq_run0 (stp_pick_t rfl rfl rfl) ?_
        exact ⟨rfl, jb (by unfold stpB; simp_all [out_in] <;> (intros; omega)), trivial⟩
    · -- behind region 4
      refine awp_cond _ rfl (fun h5 => ?_) (fun h5 => ?_)
      · -- yes
        try simp at h5
        refine awp_seq ?_
        refine awp_plain hN rfl ?_
        refine seq_run0 (stp_assign (.dat _) rfl) ?_
        refine awp_ret ?_
        exact ⟨trivial, .inl (congrArg vint (by unfold stpF; simp_all)), trivial⟩
      · -- no
        try simp at h5
        refine awp_skip ?_
        refine awp_seq ?_
        refine awp_seq ?_
        refine awp_plain hN rfl ?_
        first | refine seq_run0 (stp_fldP tyF54_5 rfl) ?_ | refine seq_run0 (stp_fldE tyF54_5 rfl) ?_ | refine seq_run0 (stp_fldR tyF54_5 rfl) ?_
        first | refine seq_run1 (stp_loadA tyS50 rfl rfl rfl) rfl ?_ | refine seq_run0 (stp_loadEA tyS50 rfl (by first | assumption | rfl) rfl) ?_ | refine seq_run1 (stp_loadRA tyS50 rfl (by first | rfl | omega | simp) (by first | assumption | exact List.getElem?_set_self (by simp; omega)) rfl) rfl ?_ | refine seq_run0 (stp_loadEP tyS50 rfl (by first | assumption | rfl) rfl) ?_
        refine seq_run0 (stp_call (k_upstream_CheckBudget s.bu) ⟨.inl rfl, trivial⟩) ?_
        first | refine seq_run0 (stp_assign (.dat _) rfl) ?_ | refine seq_run0 (stp_assign (.ptr _ _) rfl) ?_ | refine seq_run0 (stp_assign (.row _ _) rfl) ?_ | refine seq_run0 (stp_assign (.rptr _ _ _ _ _) rfl) ?_ | refine seq_run0 (stp_assign (.mp _) rfl) ?_
        refine awp_seq ?_
        refine awp_plain hN rfl ?_
        first | refine seq_run0 (stp_move (.dat _) rfl) ?_ | refine seq_run0 (stp_move (.ptr _ _) rfl) ?_ | refine seq_run0 (stp_move (.row _ _) rfl) ?_ | refine seq_run0 (stp_move (.rptr _ _ _ _ _) rfl) ?_ | refine seq_run0 (stp_move (.mp _) rfl) ?_
        refine seq_run0 (stp_neq rfl rfl) ?_
        refine awp_cond _ rfl (fun h6 => ?_) (fun h6 => ?_)
        · -- yes
          try simp at h6
          refine awp_seq ?_
          refine awp_plain hN rfl ?_
          first | refine seq_run0 (stp_move (.dat _) rfl) ?_ | refine seq_run0 (stp_move (.ptr _ _) rfl) ?_ | refine seq_run0 (stp_move (.row _ _) rfl) ?_ | refine seq_run0 (stp_move (.rptr _ _ _ _ _) rfl) ?_ | refine seq_run0 (stp_move (.mp _) rfl) ?_
          first | refine seq_run0 (stp_assign (.dat _) rfl) ?_ | refine seq_run0 (stp_assign (.ptr _ _) rfl) ?_ | refine seq_run0 (stp_assign (.row _ _) rfl) ?_ | refine seq_run0 (stp_assign (.rptr _ _ _ _ _) rfl) ?_ | refine seq_run0 (stp_assign (.mp _) rfl) ?_
          refine awp_ret ?_
          exact ⟨trivial, .inl (congrArg vint (by unfold stpF; simp_all)), trivial⟩
        · -- no
          try simp at h6
          refine awp_skip ?_
          refine awp_seq ?_
          refine awp_plain hN rfl ?_
          first | refine seq_run0 (stp_fldP tyF54_6 rfl) ?_ | refine seq_run0 (stp_fldE tyF54_6 rfl) ?_ | refine seq_run0 (stp_fldR tyF54_6 rfl) ?_
          first | refine seq_run1 (stp_loadA tyS52 rfl rfl rfl) rfl ?_ | refine seq_run0 (stp_loadEA tyS52 rfl (by first | assumption | rfl) rfl) ?_ | refine seq_run1 (stp_loadRA tyS52 rfl (by first | rfl | omega | simp) (by first | assumption | exact List.getElem?_set_self (by simp; omega)) rfl) rfl ?_ | refine seq_run0 (stp_loadEP tyS52 rfl (by first | assumption | rfl) rfl) ?_
          refine seq_run0 (stp_call (k_upstream_outliersFault s.ot) ⟨.inl rfl, trivial⟩) ?_
          first | refine seq_run0 (stp_assign (.dat _) rfl) ?_ | refine seq_run0 (stp_assign (.ptr _ _) rfl) ?_ | refine seq_run0 (stp_assign (.row _ _) rfl) ?_ | refine seq_run0 (stp_assign (.rptr _ _ _ _ _) rfl) ?_ | refine seq_run0 (stp_assign (.mp _) rfl) ?_
          refine awp_ret ?_
          exact ⟨trivial, .inl (congrArg vint (by unfold stpF; simp_all)), trivial⟩
theorem k_gateref2_SetupFault (s : Stp5) (hok : InsOK s.xs)  : Fn Try.prog 29 [vagg (stpV s)] (resOf [vint (stpF s)]) := by
  refine ⟨by kernel_rfl, pure_of (us := [vint (stpF s)]) Try.func29 rfl rfl rfl rfl fun X hN => ?_⟩
  refine awp_seq ?_
  refine awp_plain hN rfl ?_
  refine seq_run2 (stp_boxA 1 rfl) rfl ?_
  refine seq_run0 (stp_assign (.dat _) rfl) ?_
  refine awp_seq ?_
  refine awp_seq ?_
  refine awp_plain hN rfl ?_
  first | refine seq_run0 (stp_fldP tyF54_0 rfl) ?_ | refine seq_run0 (stp_fldE tyF54_0 rfl) ?_ | refine seq_run0 (stp_fldR tyF54_0 rfl) ?_
  first | refine seq_run1 (stp_load1 tyS48 rfl rfl) rfl ?_ | refine seq_run0 (stp_loadE1 tyS48 rfl (by first | assumption | rfl) rfl) ?_ | refine seq_run1 (stp_loadR1 tyS48 rfl (by first | rfl | omega | simp) (by first | assumption | exact List.getElem?_set_self (by simp; omega)) rfl) rfl ?_
  refine seq_run0 (stp_call (k_gateref2_InstancesFault _ hok) ⟨.inl rfl, trivial⟩) ?_
  first | refine seq_run0 (stp_assign (.dat _) rfl) ?_ | refine seq_run0 (stp_assign (.ptr _ _) rfl) ?_ | refine seq_run0 (stp_assign (.row _ _) rfl) ?_ | refine seq_run0 (stp_assign (.rptr _ _ _ _ _) rfl) ?_ | refine seq_run0 (stp_assign (.mp _) rfl) ?_
  refine awp_seq ?_
  refine awp_plain hN rfl ?_
  first | refine seq_run0 (stp_move (.dat _) rfl) ?_ | refine seq_run0 (stp_move (.ptr _ _) rfl) ?_ | refine seq_run0 (stp_move (.row _ _) rfl) ?_ | refine seq_run0 (stp_move (.rptr _ _ _ _ _) rfl) ?_ | refine seq_run0 (stp_move (.mp _) rfl) ?_
  refine seq_run0 (stp_neq rfl rfl) ?_
  refine awp_cond _ rfl (fun h1 => ?_) (fun h1 => ?_)
  · -- yes
    try simp at h1
    refine awp_seq ?_
    refine awp_plain hN rfl ?_
    first | refine seq_run0 (stp_move (.dat _) rfl) ?_ | refine seq_run0 (stp_move (.ptr _ _) rfl) ?_ | refine seq_run0 (stp_move (.row _ _) rfl) ?_ | refine seq_run0 (stp_move (.rptr _ _ _ _ _) rfl) ?_ | refine seq_run0 (stp_move (.mp _) rfl) ?_
    first | refine seq_run0 (stp_assign (.dat _) rfl) ?_ | refine seq_run0 (stp_assign (.ptr _ _) rfl) ?_ | refine seq_run0 (stp_assign (.row _ _) rfl) ?_ | refine seq_run0 (stp_assign (.rptr _ _ _ _ _) rfl) ?_ | refine seq_run0 (stp_assign (.mp _) rfl) ?_
    refine awp_ret ?_
    exact ⟨trivial, .inl (congrArg vint (by unfold stpF; simp_all)), trivial⟩
  · -- no
    try simp at h1
    refine awp_skip ?_
    refine awp_seq ?_
    refine awp_rjP [(33, .dat (vbool (stpB s)))] hN rfl ?_ ?_
    · -- region 4
      first | refine seq_run0 (stp_fldP tyF54_1 rfl) ?_ | refine seq_run0 (stp_fldE tyF54_1 rfl) ?_ | refine seq_run0 (stp_fldR tyF54_1 rfl) ?_
      first | refine seq_run1 (stp_load1 tyS3 rfl rfl) rfl ?_ | refine seq_run0 (stp_loadE1 tyS3 rfl (by first | assumption | rfl) rfl) ?_ | refine seq_run1 (stp_loadR1 tyS3 rfl (by first | rfl | omega | simp) (by first | assumption | exact List.getElem?_set_self (by simp; omega)) rfl) rfl ?_
      refine seq_run0 (stp_call (k_gateref2_in _ _ _) ⟨.inl rfl, .inl rfl, .inl rfl, trivial⟩) ?_
      refine seq_run0 (stp_not rfl) ?_
      first | refine seq_run0 (stp_move (.dat _) rfl) ?_ | refine seq_run0 (stp_move (.ptr _ _) rfl) ?_ | refine seq_run0 (stp_move (.row _ _) rfl) ?_ | refine seq_run0 (stp_move (.rptr _ _ _ _ _) rfl) ?_ | refine seq_run0 (stp_move (.mp _) rfl) ?_
      refine seq_split (j := 4) rfl rfl (fun h2 => ?_) (fun h2 => ?_) rfl
      · -- guard (4, False): runs
        have qh2 := h2
        try simp at qh2
        first | refine seq_g0 rfl rfl h2 (stp_fldP tyF54_2 rfl) ?_ | refine seq_g0 rfl rfl h2 (stp_fldE tyF54_2 rfl) ?_ | refine seq_g0 rfl rfl h2 (stp_fldR tyF54_2 rfl) ?_
        first | refine seq_g1 rfl rfl h2 (stp_load1 tyS3 rfl rfl) rfl ?_ | refine seq_g0 rfl rfl h2 (stp_loadE1 tyS3 rfl (by first | assumption | rfl) rfl) ?_ | refine seq_g1 rfl rfl h2 (stp_loadR1 tyS3 rfl (by first | rfl | omega | simp) (by first | assumption | exact List.getElem?_set_self (by simp; omega)) rfl) rfl ?_
        refine seq_g0 rfl rfl h2 (stp_call (k_gateref2_in _ _ _) ⟨.inl rfl, .inl rfl, .inl rfl, trivial⟩) ?_
        refine seq_g0 rfl rfl h2 (stp_not rfl) ?_
        refine seq_run0 (stp_pick_f rfl h2 rfl) ?_
        first | refine seq_run0 (stp_move (.dat _) rfl) ?_ | refine seq_run0 (stp_move (.ptr _ _) rfl) ?_ | refine seq_run0 (stp_move (.row _ _) rfl) ?_ | refine seq_run0 (stp_move (.rptr _ _ _ _ _) rfl) ?_ | refine seq_run0 (stp_move (.mp _) rfl) ?_
        refine seq_split (j := 10) rfl rfl (fun h3 => ?_) (fun h3 => ?_) rfl
        · -- guard (10, False): runs
          have qh3 := h3
          try simp at qh3
          first | refine seq_g0 rfl rfl h3 (stp_fldP tyF54_3 rfl) ?_ | refine seq_g0 rfl rfl h3 (stp_fldE tyF54_3 rfl) ?_ | refine seq_g0 rfl rfl h3 (stp_fldR tyF54_3 rfl) ?_
          first | refine seq_g1 rfl rfl h3 (stp_load1 tyS3 rfl rfl) rfl ?_ | refine seq_g0 rfl rfl h3 (stp_loadE1 tyS3 rfl (by first | assumption | rfl) rfl) ?_ | refine seq_g1 rfl rfl h3 (stp_loadR1 tyS3 rfl (by first | rfl | omega | simp) (by first | assumption | exact List.getElem?_set_self (by simp; omega)) rfl) rfl ?_
          first | refine seq_g0 rfl rfl h3 (stp_fldP tyF54_4 rfl) ?_ | refine seq_g0 rfl rfl h3 (stp_fldE tyF54_4 rfl) ?_ | refine seq_g0 rfl rfl h3 (stp_fldR tyF54_4 rfl) ?_
          first | refine seq_g1 rfl rfl h3 (stp_load1 tyS3 rfl rfl) rfl ?_ | refine seq_g0 rfl rfl h3 (stp_loadE1 tyS3 rfl (by first | assumption | rfl) rfl) ?_ | refine seq_g1 rfl rfl h3 (stp_loadR1 tyS3 rfl (by first | rfl | omega | simp) (by first | assumption | exact List.getElem?_set_self (by simp; omega)) rfl) rfl ?_
          refine seq_g0 rfl rfl h3 (stp_call (k_gateref2_in _ _ _) ⟨.inl rfl, .inl rfl, .inl rfl, trivial⟩) ?_
          refine seq_g0 rfl rfl h3 (stp_not rfl) ?_
          refine seq_run0 (stp_pick_f rfl h3 rfl) ?_
          first | refine seq_run0 (stp_move (.dat _) rfl) ?_ | refine seq_run0 (stp_move (.ptr _ _) rfl) ?_ | refine seq_run0 (stp_move (.row _ _) rfl) ?_ | refine seq_run0 (stp_move (.rptr _ _ _ _ _) rfl) ?_ | refine seq_run0 (stp_move (.mp _) rfl) ?_
          refine seq_split (j := 18) rfl rfl (fun h4 => ?_) (fun h4 => ?_) rfl
          · -- guard (18, False): runs
            have qh4 := h4
            try simp at qh4
            first | refine seq_g0 rfl rfl h4 (stp_fldP tyF54_4 rfl) ?_ | refine seq_g0 rfl rfl h4 (stp_fldE tyF54_4 rfl) ?_ | refine seq_g0 rfl rfl h4 (stp_fldR tyF54_4 rfl) ?_
            first | refine seq_g1 rfl rfl h4 (stp_load1 tyS3 rfl rfl) rfl ?_ | refine seq_g0 rfl rfl h4 (stp_loadE1 tyS3 rfl (by first | assumption | rfl) rfl) ?_ | refine seq_g1 rfl rfl h4 (stp_loadR1 tyS3 rfl (by first | rfl | omega | simp) (by first | assumption | exact List.getElem?_set_self (by simp; omega)) rfl) rfl ?_
            refine seq_g0 rfl rfl h4 (stp_gtr rfl rfl) ?_
            refine seq_run0 (stp_pick_f rfl h4 rfl) ?_
            exact ⟨rfl, jb (by unfold stpB; simp_all [out_in] <;> (intros; omega)), trivial⟩
          · -- guard (18, False): is left out
            have qh4 := h4
            try simp at qh4
            refine seq_skip rfl rfl h4 ?_
            refine seq_skip rfl rfl h4 ?_
            refine seq_skip rfl rfl h4 ?_
            refine seq_run0 (stp_pick_t' rfl h4 rfl) ?_
            exact ⟨rfl, jb (by unfold stpB; simp_all [out_in] <;> (intros; omega)), trivial⟩
        · -- guard (10, False): is left out
          have qh3 := h3
          try simp at qh3
          refine seq_skip rfl rfl h3 ?_
          refine seq_skip rfl rfl h3 ?_
          refine seq_skip rfl rfl h3 ?_
          refine seq_skip rfl rfl h3 ?_
          refine seq_skip rfl rfl h3 ?_
          refine seq_skip rfl rfl h3 ?_
          refine seq_run0 (stp_pick_t' rfl h3 rfl) ?_
          first | refine seq_run0 (stp_move (.dat _) rfl) ?_ | refine seq_run0 (stp_move (.ptr _ _) rfl) ?_ | refine seq_run0 (stp_move (.row _ _) rfl) ?_ | refine seq_run0 (stp_move (.rptr _ _ _ _ _) rfl) ?_ | refine seq_run0 (stp_move (.mp _) rfl) ?_
          refine seq_skip rfl rfl rfl ?_
          refine seq_skip rfl rfl rfl ?_
          refine seq_skip rfl rfl rfl ?_
          refine seq_run0 (stp_pick_t rfl rfl rfl) ?_
          exact ⟨rfl, jb (by unfold stpB; simp_all [out_in] <;> (intros; omega)), trivial⟩
      · -- guard (4, False): is left out
        have qh2 := h2
        try simp at qh2
        refine seq_skip rfl rfl h2 ?_
        refine seq_skip rfl rfl h2 ?_
        refine seq_skip rfl rfl h2 ?_
        refine seq_skip rfl rfl h2 ?_
        refine seq_run0 (stp_pick_t' rfl h2 rfl) ?_
        first | refine seq_run0 (stp_move (.dat _) rfl) ?_ | refine seq_run0 (stp_move (.ptr _ _) rfl) ?_ | refine seq_run0 (stp_move (.row _ _) rfl) ?_ | refine seq_run0 (stp_move (.rptr _ _ _ _ _) rfl) ?_ | refine seq_run0 (stp_move (.mp _) rfl) ?_
        refine seq_skip rfl rfl rfl ?_
        refine seq_skip rfl rfl rfl ?_
        refine seq_skip rfl rfl rfl ?_
        refine seq_skip rfl rfl rfl ?_
        refine seq_skip rfl rfl rfl ?_
        refine seq_skip rfl rfl rfl ?_
        refine seq_run0 (stp_pick_t rfl rfl rfl) ?_
        first | refine seq_run0 (stp_move (.dat _) rfl) ?_ | refine seq_run0 (stp_move (.ptr _ _) rfl) ?_ | refine seq_run0 (stp_move (.row _ _) rfl) ?_ | refine seq_run0 (stp_move (.rptr _ _ _ _ _) rfl) ?_ | refine seq_run0 (stp_move (.mp _) rfl) ?_
        refine seq_skip rfl rfl rfl ?_
        refine seq_skip rfl rfl rfl ?_
        refine seq_skip rfl rfl rfl ?_
        refine seq_run0 (stp_pick_t rfl rfl rfl) ?_
        exact ⟨rfl, jb (by unfold stpB; simp_all [out_in] <;> (intros; omega)), trivial⟩
    · -- behind region 4
      refine awp_cond _ rfl (fun h5 => ?_) (fun h5 => ?_)
      · -- yes
        try simp at h5
        refine awp_seq ?_
        refine awp_plain hN rfl ?_
        refine seq_run0 (stp_assign (.dat _) rfl) ?_
        refine awp_ret ?_
        exact ⟨trivial, .inl (congrArg vint (by unfold stpF; simp_all)), trivial⟩
      · -- no
        try simp at h5
        refine awp_skip ?_
        refine awp_seq ?_
        refine awp_seq ?_
        refine awp_plain hN rfl ?_
        first | refine seq_run0 (stp_fldP tyF54_5 rfl) ?_ | refine seq_run0 (stp_fldE tyF54_5 rfl) ?_ | refine seq_run0 (stp_fldR tyF54_5 rfl) ?_
        first | refine seq_run1 (stp_loadA tyS50 rfl rfl rfl) rfl ?_ | refine seq_run0 (stp_loadEA tyS50 rfl (by first | assumption | rfl) rfl) ?_ | refine seq_run1 (stp_loadRA tyS50 rfl (by first | rfl | omega | simp) (by first | assumption | exact List.getElem?_set_self (by simp; omega)) rfl) rfl ?_ | refine seq_run0 (stp_loadEP tyS50 rfl (by first | assumption | rfl) rfl) ?_
        refine seq_run0 (stp_call (k_gateref2_BudgetFault s.bu) ⟨.inl rfl, trivial⟩) ?_
        first | refine seq_run0 (stp_assign (.dat _) rfl) ?_ | refine seq_run0 (stp_assign (.ptr _ _) rfl) ?_ | refine seq_run0 (stp_assign (.row _ _) rfl) ?_ | refine seq_run0 (stp_assign (.rptr _ _ _ _ _) rfl) ?_ | refine seq_run0 (stp_assign (.mp _) rfl) ?_
        refine awp_seq ?_
        refine awp_plain hN rfl ?_
        first | refine seq_run0 (stp_move (.dat _) rfl) ?_ | refine seq_run0 (stp_move (.ptr _ _) rfl) ?_ | refine seq_run0 (stp_move (.row _ _) rfl) ?_ | refine seq_run0 (stp_move (.rptr _ _ _ _ _) rfl) ?_ | refine seq_run0 (stp_move (.mp _) rfl) ?_
        refine seq_run0 (stp_neq rfl rfl) ?_
        refine awp_cond _ rfl (fun h6 => ?_) (fun h6 => ?_)
        · -- yes
          try simp at h6
          refine awp_seq ?_
          refine awp_plain hN rfl ?_
          first | refine seq_run0 (stp_move (.dat _) rfl) ?_ | refine seq_run0 (stp_move (.ptr _ _) rfl) ?_ | refine seq_run0 (stp_move (.row _ _) rfl) ?_ | refine seq_run0 (stp_move (.rptr _ _ _ _ _) rfl) ?_ | refine seq_run0 (stp_move (.mp _) rfl) ?_
          first | refine seq_run0 (stp_assign (.dat _) rfl) ?_ | refine seq_run0 (stp_assign (.ptr _ _) rfl) ?_ | refine seq_run0 (stp_assign (.row _ _) rfl) ?_ | refine seq_run0 (stp_assign (.rptr _ _ _ _ _) rfl) ?_ | refine seq_run0 (stp_assign (.mp _) rfl) ?_
          refine awp_ret ?_
          exact ⟨trivial, .inl (congrArg vint (by unfold stpF; simp_all)), trivial⟩
        · -- no
          try simp at h6
          refine awp_skip ?_
          refine awp_seq ?_
          refine awp_plain hN rfl ?_
          first | refine seq_run0 (stp_fldP tyF54_6 rfl) ?_ | refine seq_run0 (stp_fldE tyF54_6 rfl) ?_ | refine seq_run0 (stp_fldR tyF54_6 rfl) ?_
          first | refine seq_run1 (stp_loadA tyS52 rfl rfl rfl) rfl ?_ | refine seq_run0 (stp_loadEA tyS52 rfl (by first | assumption | rfl) rfl) ?_ | refine seq_run1 (stp_loadRA tyS52 rfl (by first | rfl | omega | simp) (by first | assumption | exact List.getElem?_set_self (by simp; omega)) rfl) rfl ?_ | refine seq_run0 (stp_loadEP tyS52 rfl (by first | assumption | rfl) rfl) ?_
          refine seq_run0 (stp_call (k_gateref2_OutliersFault s.ot) ⟨.inl rfl, trivial⟩) ?_
          first | refine seq_run0 (stp_assign (.dat _) rfl) ?_ | refine seq_run0 (stp_assign (.ptr _ _) rfl) ?_ | refine seq_run0 (stp_assign (.row _ _) rfl) ?_ | refine seq_run0 (stp_assign (.rptr _ _ _ _ _) rfl) ?_ | refine seq_run0 (stp_assign (.mp _) rfl) ?_
          refine awp_ret ?_
          exact ⟨trivial, .inl (congrArg vint (by unfold stpF; simp_all)), trivial⟩
end Go.Proofs.Ytmcegaabopcmfaa
