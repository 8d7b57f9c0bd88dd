/- place: the binary search over instances in order. -/
import Derived.Test.YtmcegaabopcmfaaCb
import Derived.Test.YtmcegaabopcmfaaAbsK
namespace Go.Proofs.Ytmcegaabopcmfaa
open Go.RowKit
set_option linter.unusedVariables false
set_option maxRecDepth 20000

def plP (xs : List Inst) (l : List UInt8) : Nat := xs.countP fun x => decide (cmpL x.1 l < 0)
def hasK (xs : List Inst) (l : List UInt8) : Bool := xs.any fun x => decide (x.1 = l)
theorem nth_get {α : Type} {d : α} {l : List α} {k : Nat} (h : k < l.length) : l[k] = nth d l k := by
  have := nth_at (d := d) h; rw [List.getElem?_eq_getElem h] at this; exact Option.some.inj this
theorem leS_cmp (a b : List UInt8) : leS a b = false ↔ 0 < cmpL a b := by
  unfold leS
  rw [less_cmp]
  have h1 := cmp_zero a b
  have h2 := cmp_rng a b
  simp only [Bool.or_eq_false_iff, decide_eq_false_iff_not, beq_eq_false_iff_ne, ne_eq, ← h1]
  omega
theorem ci_lt {xs : List Inst} (hl : xs.length ≤ 50) (h : ciFault xs = 0) {i j : Nat} (hij : i < j) (hj : j < xs.length) : cmpL (ky xs i) (ky xs j) < 0 := by
  unfold ciFault at h
  rw [if_neg (by omega)] at h
  have hall := firstErr_zero h
  induction j with
  | zero => omega
  | succ j ih =>
    have h1 := hall (j + 1) hj
    unfold ciAt at h1
    split at h1
    · cases h1
    · split at h1
      · cases h1
      · rename_i h2 h3
        have h4 : leS (ky xs (j + 1)) (ky xs j) = false := by
          have e : (((j + 1 : Nat) : Int) - 1).toNat = j := by omega
          rw [e] at h3
          have : decide (0 < ((j + 1 : Nat) : Int)) = true := by rw [decide_eq_true_eq]; omega
          rw [this] at h3
          simpa using h3
        rw [leS_cmp] at h4
        have h5 := cmp_swap (ky xs (j + 1)) (ky xs j)
        have h6 : cmpL (ky xs j) (ky xs (j + 1)) < 0 := by omega
        rcases Nat.lt_or_ge i j with hl | hl
        · exact cmp_trans _ _ _ (ih hl (by omega)) h6
        · obtain rfl : i = j := by omega
          exact h6
def Sorted (xs : List Inst) : Prop := ∀ i j, i < j → j < xs.length → cmpL (ky xs i) (ky xs j) < 0
theorem plP_eq {xs : List Inst} {l : List UInt8} {i : Nat} (hi : i ≤ xs.length) (h1 : ∀ q, q < i → cmpL (ky xs q) l < 0) (h2 : ∀ q, i ≤ q → q < xs.length → 0 ≤ cmpL (ky xs q) l) : plP xs l = i := by
  unfold plP
  rw [← List.take_append_drop i xs, List.countP_append]
  have e1 : (xs.take i).countP (fun x => decide (cmpL x.1 l < 0)) = (xs.take i).length := by
    rw [List.countP_eq_length]
    intro a ha
    obtain ⟨q, hq, rfl⟩ := List.getElem_of_mem ha
    rw [List.length_take] at hq
    rw [List.getElem_take, nth_get (d := ([], 0))]
    simp only [decide_eq_true_eq]; exact h1 q (by omega)
  have e2 : (xs.drop i).countP (fun x => decide (cmpL x.1 l < 0)) = 0 := by
    rw [List.countP_eq_zero]
    intro a ha
    obtain ⟨q, hq, rfl⟩ := List.getElem_of_mem ha
    rw [List.length_drop] at hq
    rw [List.getElem_drop, nth_get (d := ([], 0))]
    simp only [decide_eq_true_eq]; exact Int.not_lt.2 (h2 (i + q) (by omega) (by omega))
  rw [e1, e2, List.length_take]; omega
theorem plP_has {xs : List Inst} (hs : Sorted xs) {l : List UInt8} {i : Nat} (hi : i ≤ xs.length) (h1 : ∀ q, q < i → cmpL (ky xs q) l < 0) (h2 : ∀ q, i ≤ q → q < xs.length → 0 ≤ cmpL (ky xs q) l) : hasK xs l = decide (i < xs.length ∧ cmpL (ky xs i) l = 0) := by
  by_cases h : i < xs.length ∧ cmpL (ky xs i) l = 0
  · rw [decide_eq_true h]
    unfold hasK
    rw [List.any_eq_true]
    exact ⟨_, nth_mem (d := ([], 0)) h.1, by simp only [decide_eq_true_eq]; exact (cmp_zero _ _).1 h.2⟩
  · rw [decide_eq_false h]
    unfold hasK
    rw [List.any_eq_false]
    intro x hx
    obtain ⟨q, hq, rfl⟩ := List.getElem_of_mem hx
    rw [nth_get (d := ([], 0))]
    simp only [decide_eq_true_eq]
    intro he
    have he0 : cmpL (ky xs q) l = 0 := (cmp_zero _ _).2 he
    rcases Nat.lt_trichotomy q i with hl | hl | hl
    · have := h1 q hl; omega
    · subst hl; exact h ⟨hq, he0⟩
    · have h3 := hs i q hl hq
      have h4 := h2 i (Nat.le_refl _) (by omega)
      rw [show ky xs q = l from he] at h3
      omega
theorem mid_eq {i j : Nat} (h : i + j ≤ 100000) : IntKind.i64.wrap ((IntKind.u64.wrap ((i : Int) + (j : Int))).fdiv (2 ^ (min (1 : Int).toNat IntKind.u64.bits))) = (((i + j) / 2 : Nat) : Int) := by
  have h1 : IntKind.u64.wrap ((i : Int) + (j : Int)) = (i : Int) + j := by rw [IntKind.wrap_u64]; omega
  have h2 : (2 : Int) ^ (min (1 : Int).toNat IntKind.u64.bits) = 2 := by decide
  rw [h1, h2]
  have h3 : ((i : Int) + j).fdiv 2 = (((i + j) / 2 : Nat) : Int) := by
    rw [Int.fdiv_eq_ediv_of_nonneg _ (by omega)]; omega
  rw [h3]
  exact IntWalk.i64_in _ (by omega)
theorem k_pl1 (x : Inst) (l : List UInt8)  : Fn Try.prog 125 [vagg (instE x), vstr l] (resOf [vint (cmpL x.1 l)]) := by
  refine ⟨by kernel_rfl, pure_of (us := [vint (cmpL x.1 l)]) Try.func125 rfl rfl rfl rfl fun X hN => ?_⟩
  refine awp_seq ?_
  refine awp_plain hN rfl ?_
  refine seq_run2 (stp_boxA 1 rfl) rfl ?_
  refine seq_run0 (stp_assign (.dat _) rfl) ?_
  refine awp_seq ?_
  refine awp_plain hN rfl ?_
  first | refine seq_run0 (stp_fldP tyF114_0 rfl) ?_ | refine seq_run0 (stp_fldE tyF114_0 rfl) ?_ | refine seq_run0 (stp_fldR tyF114_0 rfl) ?_
  first | refine seq_run1 (stp_load1 tyS9 rfl rfl) rfl ?_ | refine seq_run0 (stp_loadE1 tyS9 rfl (by first | assumption | rfl) rfl) ?_ | refine seq_run1 (stp_loadR1 tyS9 rfl (by first | rfl | omega | simp) (by first | assumption | exact List.getElem?_set_self (by simp; omega)) rfl) rfl ?_
  first | refine seq_run0 (stp_move (.dat _) rfl) ?_ | refine seq_run0 (stp_move (.ptr _ _) rfl) ?_ | refine seq_run0 (stp_move (.row _ _) rfl) ?_ | refine seq_run0 (stp_move (.rptr _ _ _ _ _) rfl) ?_ | refine seq_run0 (stp_move (.mp _) rfl) ?_
  refine seq_run0 (stp_call (cmpB _ _) ⟨.inl rfl, .inl rfl, trivial⟩) ?_
  first | refine seq_run0 (stp_assign (.dat _) rfl) ?_ | refine seq_run0 (stp_assign (.ptr _ _) rfl) ?_ | refine seq_run0 (stp_assign (.row _ _) rfl) ?_ | refine seq_run0 (stp_assign (.rptr _ _ _ _ _) rfl) ?_ | refine seq_run0 (stp_assign (.mp _) rfl) ?_
  refine awp_ret ?_
  exact ⟨trivial, .inl rfl, trivial⟩
theorem k_bsrch (xs : List Inst) (l : List UInt8) (hl : xs.length ≤ 1000) (hs : Sorted xs) (fn : Nat) (hp : ∀ x, Fn Try.prog fn ([vagg (instE x), vstr l] ++ []) (resOf [vint (cmpL x.1 l)]))  : Fn Try.prog 124 [vlst (xs.map instE), vstr l, vfn fn []] (resOf [vint (plP xs l : Int), vbool (hasK xs l)]) := by
  have hle := inst_len xs
  have hln : (xs.map instE).length = xs.length := by simp
  refine ⟨by kernel_rfl, pure_of (us := [vint (plP xs l : Int), vbool (hasK xs l)]) Try.func124 rfl rfl rfl rfl fun X hN => ?_⟩
  refine awp_seq ?_
  refine awp_plain hN rfl ?_
  refine seq_run0 (stp_assign (.dat _) rfl) ?_
  refine seq_run0 (stp_assign (.dat _) rfl) ?_
  refine awp_seq ?_
  refine awp_plain hN rfl ?_
  first | refine seq_run0 (stp_move (.dat _) rfl) ?_ | refine seq_run0 (stp_move (.ptr _ _) rfl) ?_ | refine seq_run0 (stp_move (.row _ _) rfl) ?_ | refine seq_run0 (stp_move (.rptr _ _ _ _ _) rfl) ?_ | refine seq_run0 (stp_move (.mp _) rfl) ?_
  first | refine seq_run0 (stp_len_lst tyU48 rfl) ?_ | refine seq_run1 (stp_len_row tyU48 rfl rfl) rfl ?_ | refine seq_run0 (stp_len_nil tyU48 rfl) ?_
  first | refine seq_run0 (stp_assign (.dat _) rfl) ?_ | refine seq_run0 (stp_assign (.ptr _ _) rfl) ?_ | refine seq_run0 (stp_assign (.row _ _) rfl) ?_ | refine seq_run0 (stp_assign (.rptr _ _ _ _ _) rfl) ?_ | refine seq_run0 (stp_assign (.mp _) rfl) ?_
  refine awp_seq ?_
  refine awp_plain hN rfl ?_
  first | refine seq_run0 (stp_move (.dat _) rfl) ?_ | refine seq_run0 (stp_move (.ptr _ _) rfl) ?_ | refine seq_run0 (stp_move (.row _ _) rfl) ?_ | refine seq_run0 (stp_move (.rptr _ _ _ _ _) rfl) ?_ | refine seq_run0 (stp_move (.mp _) rfl) ?_
  refine seq_run0 (stp_assign (.dat _) rfl) ?_
  first | refine seq_run0 (stp_assign (.dat _) rfl) ?_ | refine seq_run0 (stp_assign (.ptr _ _) rfl) ?_ | refine seq_run0 (stp_assign (.row _ _) rfl) ?_ | refine seq_run0 (stp_assign (.rptr _ _ _ _ _) rfl) ?_ | refine seq_run0 (stp_assign (.mp _) rfl) ?_
  refine awp_seq ?_
  refine awp_block ?_
  refine awp_loop (fun s : Nat × Nat => [(0, .dat (vlst (xs.map instE))), (1, .dat (vstr l)), (2, .dat (vfn fn [])), (8, .dat (vint ((xs.map instE).length : Int))), (9, .dat (vint (s.1 : Int))), (10, .dat (vint (s.2 : Int)))]) (fun s : Nat × Nat => []) (fun s : Nat × Nat => s.1 ≤ s.2 ∧ s.2 ≤ xs.length ∧ (∀ q, q < s.1 → cmpL (ky xs q) l < 0) ∧ (∀ q, s.2 ≤ q → q < xs.length → 0 ≤ cmpL (ky xs q) l)) (fun s : Nat × Nat => s.2 - s.1) (0, (xs.map instE).length) ⟨by simp, by simp, by simp, fun q h1 h2 => by simp at h1; omega⟩ ⟨rfl, rfl, rfl, rfl, rfl, rfl, trivial⟩ trivial (fun _ => rfl) (fun s hI => ?_)
  obtain ⟨i, j⟩ := s
  obtain ⟨hij, hjn, hlo, hhi⟩ := hI
  simp only at hij hjn hlo hhi
  refine awp_seq ?_
  refine awp_seq ?_
  refine awp_plain hN rfl ?_
  first | refine seq_run0 (stp_move (.dat _) rfl) ?_ | refine seq_run0 (stp_move (.ptr _ _) rfl) ?_ | refine seq_run0 (stp_move (.row _ _) rfl) ?_ | refine seq_run0 (stp_move (.rptr _ _ _ _ _) rfl) ?_ | refine seq_run0 (stp_move (.mp _) rfl) ?_
  first | refine seq_run0 (stp_move (.dat _) rfl) ?_ | refine seq_run0 (stp_move (.ptr _ _) rfl) ?_ | refine seq_run0 (stp_move (.row _ _) rfl) ?_ | refine seq_run0 (stp_move (.rptr _ _ _ _ _) rfl) ?_ | refine seq_run0 (stp_move (.mp _) rfl) ?_
  refine seq_run0 (stp_lss rfl rfl) ?_
  refine awp_cond _ rfl (fun h1 => ?_) (fun h1 => ?_)
  · -- yes
    try simp at h1
    have hmid := mid_eq (i := i) (j := j) (by omega)
    have hm1 : i ≤ (i + j) / 2 := by omega
    have hm2 : (i + j) / 2 < j := by omega
    generalize (i + j) / 2 = m at hmid hm1 hm2
    have hkl : m < xs.length := by omega
    have hat := inst_at hkl
    have hcall := hp (nth ([], 0) xs m)
    refine awp_skip ?_
    refine awp_block ?_
    refine awp_seq ?_
    refine awp_plain hN rfl ?_
    first | refine seq_run0 (stp_move (.dat _) rfl) ?_ | refine seq_run0 (stp_move (.ptr _ _) rfl) ?_ | refine seq_run0 (stp_move (.row _ _) rfl) ?_ | refine seq_run0 (stp_move (.rptr _ _ _ _ _) rfl) ?_ | refine seq_run0 (stp_move (.mp _) rfl) ?_
    first | refine seq_run0 (stp_move (.dat _) rfl) ?_ | refine seq_run0 (stp_move (.ptr _ _) rfl) ?_ | refine seq_run0 (stp_move (.row _ _) rfl) ?_ | refine seq_run0 (stp_move (.rptr _ _ _ _ _) rfl) ?_ | refine seq_run0 (stp_move (.mp _) rfl) ?_
    refine seq_run0 (stp_add rfl rfl (by omega)) ?_
    refine seq_run0 (stp_conv tyU3 tyU184 rfl) ?_
    refine seq_run0 (stp_shr rfl rfl (by omega)) ?_
    refine seq_run0 (stp_conv tyU184 tyU3 rfl) ?_
    refine seq_run0 (stp_assign (.dat (vint (m : Int))) (ji hmid)) ?_
    refine awp_seq ?_
    refine awp_plain hN rfl ?_
    first | refine seq_run0 (stp_move (.dat _) rfl) ?_ | refine seq_run0 (stp_move (.ptr _ _) rfl) ?_ | refine seq_run0 (stp_move (.row _ _) rfl) ?_ | refine seq_run0 (stp_move (.rptr _ _ _ _ _) rfl) ?_ | refine seq_run0 (stp_move (.mp _) rfl) ?_
    first | refine seq_run0 (stp_move (.dat _) rfl) ?_ | refine seq_run0 (stp_move (.ptr _ _) rfl) ?_ | refine seq_run0 (stp_move (.row _ _) rfl) ?_ | refine seq_run0 (stp_move (.rptr _ _ _ _ _) rfl) ?_ | refine seq_run0 (stp_move (.mp _) rfl) ?_
    first | refine seq_run0 (stp_move (.dat _) rfl) ?_ | refine seq_run0 (stp_move (.ptr _ _) rfl) ?_ | refine seq_run0 (stp_move (.row _ _) rfl) ?_ | refine seq_run0 (stp_move (.rptr _ _ _ _ _) rfl) ?_ | refine seq_run0 (stp_move (.mp _) rfl) ?_
    first | refine seq_run0 (stp_idxE tyE48 rfl rfl (by omega) (by assumption)) ?_ | refine seq_run0 (stp_idxI tyE48 rfl rfl (by omega) (by assumption)) ?_ | refine seq_run1 (stp_idxR tyE48 rfl rfl (by first | rfl | omega | simp) (by first | omega | (simp; omega))) rfl ?_ | refine seq_run1 (stp_idxRI tyE48 rfl rfl (by first | rfl | omega | simp) (by first | omega | (simp; omega))) rfl ?_
    first | refine seq_run1 (stp_loadA tyS114 rfl rfl rfl) rfl ?_ | refine seq_run0 (stp_loadEA tyS114 rfl (by first | assumption | rfl) rfl) ?_ | refine seq_run1 (stp_loadRA tyS114 rfl (by first | rfl | omega | simp) (by first | assumption | exact List.getElem?_set_self (by simp; omega)) rfl) rfl ?_ | refine seq_run0 (stp_loadEP tyS114 rfl (by first | assumption | rfl) rfl) ?_
    first | refine seq_run0 (stp_move (.dat _) rfl) ?_ | refine seq_run0 (stp_move (.ptr _ _) rfl) ?_ | refine seq_run0 (stp_move (.row _ _) rfl) ?_ | refine seq_run0 (stp_move (.rptr _ _ _ _ _) rfl) ?_ | refine seq_run0 (stp_move (.mp _) rfl) ?_
    refine seq_run0 (stp_callv hcall rfl ⟨.inl rfl, .inl rfl, trivial⟩) ?_
    refine seq_run0 (stp_lss rfl rfl) ?_
    refine awp_cond _ rfl (fun h2 => ?_) (fun h2 => ?_)
    · -- yes
      try simp at h2
      refine awp_plain hN rfl ?_
      first | refine seq_run0 (stp_move (.dat _) rfl) ?_ | refine seq_run0 (stp_move (.ptr _ _) rfl) ?_ | refine seq_run0 (stp_move (.row _ _) rfl) ?_ | refine seq_run0 (stp_move (.rptr _ _ _ _ _) rfl) ?_ | refine seq_run0 (stp_move (.mp _) rfl) ?_
      refine seq_run0 (stp_add rfl rfl (by omega)) ?_
      first | refine seq_run0 (stp_assign (.dat _) rfl) ?_ | refine seq_run0 (stp_assign (.ptr _ _) rfl) ?_ | refine seq_run0 (stp_assign (.row _ _) rfl) ?_ | refine seq_run0 (stp_assign (.rptr _ _ _ _ _) rfl) ?_ | refine seq_run0 (stp_assign (.mp _) rfl) ?_
      refine ⟨(m + 1, j), ⟨by simp only; omega, by simp only; omega, ?_, hhi⟩, by simp only; omega, ⟨rfl, rfl, rfl, rfl, rfl, rfl, trivial⟩, trivial⟩
      intro q hq
      rcases Nat.lt_or_ge q m with hl2 | hl2
      · exact cmp_trans _ _ _ (hs q m hl2 hkl) h2
      · obtain rfl : q = m := by simp only at hq; omega
        exact h2
    · -- no
      try simp at h2
      refine awp_plain hN rfl ?_
      first | refine seq_run0 (stp_move (.dat _) rfl) ?_ | refine seq_run0 (stp_move (.ptr _ _) rfl) ?_ | refine seq_run0 (stp_move (.row _ _) rfl) ?_ | refine seq_run0 (stp_move (.rptr _ _ _ _ _) rfl) ?_ | refine seq_run0 (stp_move (.mp _) rfl) ?_
      first | refine seq_run0 (stp_assign (.dat _) rfl) ?_ | refine seq_run0 (stp_assign (.ptr _ _) rfl) ?_ | refine seq_run0 (stp_assign (.row _ _) rfl) ?_ | refine seq_run0 (stp_assign (.rptr _ _ _ _ _) rfl) ?_ | refine seq_run0 (stp_assign (.mp _) rfl) ?_
      refine ⟨(i, m), ⟨by simp only; omega, by simp only; omega, hlo, ?_⟩, by simp only; omega, ⟨rfl, rfl, rfl, rfl, rfl, rfl, trivial⟩, trivial⟩
      intro q hq hq2
      simp only at hq
      rcases Nat.lt_or_ge m q with hl2 | hl2
      · have h3 := hs m q hl2 hq2
        rcases Int.lt_or_le (cmpL (ky xs q) l) 0 with h4 | h4
        · have := cmp_trans _ _ _ h3 h4
          simp only [ky] at this
          omega
        · exact h4
      · obtain rfl : q = m := by omega
        exact h2
  · -- no
    try simp at h1
    obtain rfl : i = j := by omega
    have hpl := plP_eq hjn hlo hhi
    have hph := plP_has hs hjn hlo hhi
    refine awp_exit ?_
    refine awp_seq ?_
    refine awp_plain hN rfl ?_
    first | refine seq_run0 (stp_move (.dat _) rfl) ?_ | refine seq_run0 (stp_move (.ptr _ _) rfl) ?_ | refine seq_run0 (stp_move (.row _ _) rfl) ?_ | refine seq_run0 (stp_move (.rptr _ _ _ _ _) rfl) ?_ | refine seq_run0 (stp_move (.mp _) rfl) ?_
    first | refine seq_run0 (stp_move (.dat _) rfl) ?_ | refine seq_run0 (stp_move (.ptr _ _) rfl) ?_ | refine seq_run0 (stp_move (.row _ _) rfl) ?_ | refine seq_run0 (stp_move (.rptr _ _ _ _ _) rfl) ?_ | refine seq_run0 (stp_move (.mp _) rfl) ?_
    first | refine seq_run0 (stp_move (.dat _) rfl) ?_ | refine seq_run0 (stp_move (.ptr _ _) rfl) ?_ | refine seq_run0 (stp_move (.row _ _) rfl) ?_ | refine seq_run0 (stp_move (.rptr _ _ _ _ _) rfl) ?_ | refine seq_run0 (stp_move (.mp _) rfl) ?_
    refine seq_run0 (stp_lss rfl rfl) ?_
    first | refine seq_run0 (stp_move (.dat _) rfl) ?_ | refine seq_run0 (stp_move (.ptr _ _) rfl) ?_ | refine seq_run0 (stp_move (.row _ _) rfl) ?_ | refine seq_run0 (stp_move (.rptr _ _ _ _ _) rfl) ?_ | refine seq_run0 (stp_move (.mp _) rfl) ?_
    refine seq_split (j := 4) rfl rfl (fun h3 => ?_) (fun h3 => ?_) rfl
    · -- guard (4, True): runs
      have qh3 := h3
      try simp at qh3
      have hkl : i < xs.length := by omega
      have hat := inst_at hkl
      have hcall := hp (nth ([], 0) xs i)
      first | refine seq_g0 rfl rfl h3 (stp_move (.dat _) rfl) ?_ | refine seq_g0 rfl rfl h3 (stp_move (.ptr _ _) rfl) ?_ | refine seq_g0 rfl rfl h3 (stp_move (.row _ _) rfl) ?_ | refine seq_g0 rfl rfl h3 (stp_move (.rptr _ _ _ _ _) rfl) ?_ | refine seq_g0 rfl rfl h3 (stp_move (.mp _) rfl) ?_
      first | refine seq_g0 rfl rfl h3 (stp_move (.dat _) rfl) ?_ | refine seq_g0 rfl rfl h3 (stp_move (.ptr _ _) rfl) ?_ | refine seq_g0 rfl rfl h3 (stp_move (.row _ _) rfl) ?_ | refine seq_g0 rfl rfl h3 (stp_move (.rptr _ _ _ _ _) rfl) ?_ | refine seq_g0 rfl rfl h3 (stp_move (.mp _) rfl) ?_
      first | refine seq_g0 rfl rfl h3 (stp_move (.dat _) rfl) ?_ | refine seq_g0 rfl rfl h3 (stp_move (.ptr _ _) rfl) ?_ | refine seq_g0 rfl rfl h3 (stp_move (.row _ _) rfl) ?_ | refine seq_g0 rfl rfl h3 (stp_move (.rptr _ _ _ _ _) rfl) ?_ | refine seq_g0 rfl rfl h3 (stp_move (.mp _) rfl) ?_
      first | refine seq_g0 rfl rfl h3 (stp_idxE tyE48 rfl rfl (by omega) (by assumption)) ?_ | refine seq_g0 rfl rfl h3 (stp_idxI tyE48 rfl rfl (by omega) (by assumption)) ?_ | refine seq_g1 rfl rfl h3 (stp_idxR tyE48 rfl rfl (by first | rfl | omega | simp) (by first | omega | (simp; omega))) rfl ?_ | refine seq_g1 rfl rfl h3 (stp_idxRI tyE48 rfl rfl (by first | rfl | omega | simp) (by first | omega | (simp; omega))) rfl ?_
      first | refine seq_g1 rfl rfl h3 (stp_loadA tyS114 rfl rfl rfl) rfl ?_ | refine seq_g0 rfl rfl h3 (stp_loadEA tyS114 rfl (by first | assumption | rfl) rfl) ?_ | refine seq_g1 rfl rfl h3 (stp_loadRA tyS114 rfl (by first | rfl | omega | simp) (by first | assumption | exact List.getElem?_set_self (by simp; omega)) rfl) rfl ?_ | refine seq_g0 rfl rfl h3 (stp_loadEP tyS114 rfl (by first | assumption | rfl) rfl) ?_
      first | refine seq_g0 rfl rfl h3 (stp_move (.dat _) rfl) ?_ | refine seq_g0 rfl rfl h3 (stp_move (.ptr _ _) rfl) ?_ | refine seq_g0 rfl rfl h3 (stp_move (.row _ _) rfl) ?_ | refine seq_g0 rfl rfl h3 (stp_move (.rptr _ _ _ _ _) rfl) ?_ | refine seq_g0 rfl rfl h3 (stp_move (.mp _) rfl) ?_
      refine seq_g0 rfl rfl h3 (stp_callv hcall rfl ⟨.inl rfl, .inl rfl, trivial⟩) ?_
      refine seq_g0 rfl rfl h3 (stp_eql rfl rfl) ?_
      refine seq_run0 (stp_pick_t rfl h3 rfl) ?_
      first | refine seq_run0 (stp_assign (.dat _) rfl) ?_ | refine seq_run0 (stp_assign (.ptr _ _) rfl) ?_ | refine seq_run0 (stp_assign (.row _ _) rfl) ?_ | refine seq_run0 (stp_assign (.rptr _ _ _ _ _) rfl) ?_ | refine seq_run0 (stp_assign (.mp _) rfl) ?_
      first | refine seq_run0 (stp_assign (.dat _) rfl) ?_ | refine seq_run0 (stp_assign (.ptr _ _) rfl) ?_ | refine seq_run0 (stp_assign (.row _ _) rfl) ?_ | refine seq_run0 (stp_assign (.rptr _ _ _ _ _) rfl) ?_ | refine seq_run0 (stp_assign (.mp _) rfl) ?_
      refine awp_ret ?_
      exact ⟨trivial, .inl (congrArg (fun n : Nat => vint n) hpl.symm), .inl (congrArg vbool (by rw [hph]; simp_all)), trivial⟩
    · -- guard (4, True): is left out
      have qh3 := h3
      try simp at qh3
      refine seq_skip rfl rfl h3 ?_
      refine seq_skip rfl rfl h3 ?_
      refine seq_skip rfl rfl h3 ?_
      refine seq_skip rfl rfl h3 ?_
      refine seq_skip rfl rfl h3 ?_
      refine seq_skip rfl rfl h3 ?_
      refine seq_skip rfl rfl h3 ?_
      refine seq_skip rfl rfl h3 ?_
      refine seq_run0 (stp_pick_f' rfl h3 rfl) ?_
      first | refine seq_run0 (stp_assign (.dat _) rfl) ?_ | refine seq_run0 (stp_assign (.ptr _ _) rfl) ?_ | refine seq_run0 (stp_assign (.row _ _) rfl) ?_ | refine seq_run0 (stp_assign (.rptr _ _ _ _ _) rfl) ?_ | refine seq_run0 (stp_assign (.mp _) rfl) ?_
      first | refine seq_run0 (stp_assign (.dat _) rfl) ?_ | refine seq_run0 (stp_assign (.ptr _ _) rfl) ?_ | refine seq_run0 (stp_assign (.row _ _) rfl) ?_ | refine seq_run0 (stp_assign (.rptr _ _ _ _ _) rfl) ?_ | refine seq_run0 (stp_assign (.mp _) rfl) ?_
      refine awp_ret ?_
      exact ⟨trivial, .inl (congrArg (fun n : Nat => vint n) hpl.symm), .inl (congrArg vbool (by rw [hph]; symm; rw [decide_eq_false_iff_not]; omega)), trivial⟩
theorem k_upstream_place (xs : List Inst) (l : List UInt8) (hl : xs.length ≤ 1000) (hs : Sorted xs)  : Fn Try.prog 97 [vlst (xs.map instE), vstr l] (resOf [vint (plP xs l : Int), vbool (hasK xs l)]) := by
  refine ⟨by kernel_rfl, pure_of (us := [vint (plP xs l : Int), vbool (hasK xs l)]) Try.func97 rfl rfl rfl rfl fun X hN => ?_⟩
  refine awp_seq ?_
  refine awp_plain hN rfl ?_
  refine seq_run0 (stp_assign (.dat _) rfl) ?_
  refine seq_run0 (stp_assign (.dat _) rfl) ?_
  refine awp_seq ?_
  refine awp_plain hN rfl ?_
  first | refine seq_run0 (stp_move (.dat _) rfl) ?_ | refine seq_run0 (stp_move (.ptr _ _) rfl) ?_ | refine seq_run0 (stp_move (.row _ _) rfl) ?_ | refine seq_run0 (stp_move (.rptr _ _ _ _ _) rfl) ?_ | refine seq_run0 (stp_move (.mp _) rfl) ?_
  first | refine seq_run0 (stp_move (.dat _) rfl) ?_ | refine seq_run0 (stp_move (.ptr _ _) rfl) ?_ | refine seq_run0 (stp_move (.row _ _) rfl) ?_ | refine seq_run0 (stp_move (.rptr _ _ _ _ _) rfl) ?_ | refine seq_run0 (stp_move (.mp _) rfl) ?_
  refine seq_run0 (stp_callW (k_bsrch xs l hl hs _ (fun x => k_pl1 x l)) ⟨.inl (.inl rfl), .inl (.inl rfl), .inr ⟨_, rfl, rfl⟩, trivial⟩) ?_
  refine seq_run0 (stp_ext rfl rfl) ?_
  refine seq_run0 (stp_ext rfl rfl) ?_
  first | refine seq_run0 (stp_assign (.dat _) rfl) ?_ | refine seq_run0 (stp_assign (.ptr _ _) rfl) ?_ | refine seq_run0 (stp_assign (.row _ _) rfl) ?_ | refine seq_run0 (stp_assign (.rptr _ _ _ _ _) rfl) ?_ | refine seq_run0 (stp_assign (.mp _) rfl) ?_
  first | refine seq_run0 (stp_assign (.dat _) rfl) ?_ | refine seq_run0 (stp_assign (.ptr _ _) rfl) ?_ | refine seq_run0 (stp_assign (.row _ _) rfl) ?_ | refine seq_run0 (stp_assign (.rptr _ _ _ _ _) rfl) ?_ | refine seq_run0 (stp_assign (.mp _) rfl) ?_
  refine awp_ret ?_
  exact ⟨trivial, .inl rfl, .inl rfl, trivial⟩
end Go.Proofs.Ytmcegaabopcmfaa
