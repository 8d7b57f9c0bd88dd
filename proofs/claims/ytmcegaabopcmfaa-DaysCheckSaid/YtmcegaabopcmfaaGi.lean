/- Instances: what the stream makes. -/
import Derived.Test.YtmcegaabopcmfaaSm
import Derived.Test.YtmcegaabopcmfaaAbsG
namespace Go.Proofs.Ytmcegaabopcmfaa
open Go.RowKit
set_option linter.unusedVariables false
set_option maxRecDepth 20000

/-- states along a loop -/
theorem trajS {σ : Type} {S : Nat → σ → σ → Prop} {I : Nat → σ → Prop} {n : Nat} (h : ∀ k, k < n → ∀ s, I k s → ∃ s', S k s s' ∧ I (k + 1) s') (s0 : σ) (h0 : I 0 s0) : ∃ t : Nat → σ, t 0 = s0 ∧ (∀ k, k < n → S k (t k) (t (k + 1))) ∧ ∀ k, k ≤ n → I k (t k) := by
  induction n with
  | zero => exact ⟨fun _ => s0, rfl, fun k hk => by omega, fun k hk => by
      obtain rfl : k = 0 := by omega
      exact h0⟩
  | succ n ih =>
    obtain ⟨t, q1, q2, q3⟩ := ih (fun k hk => h k (by omega))
    obtain ⟨s', r1, r2⟩ := h n (by omega) (t n) (q3 n (Nat.le_refl _))
    refine ⟨fun k => if k ≤ n then t k else s', by simp [q1], fun k hk => ?_, fun k hk => ?_⟩
    · by_cases hkn : k < n
      · simp only [if_pos (show k ≤ n by omega), if_pos (show k + 1 ≤ n by omega)]
        exact q2 k hkn
      · obtain rfl : k = n := by omega
        simp only [if_pos (Nat.le_refl k), if_neg (show ¬ k + 1 ≤ k by omega)]
        exact r1
    · by_cases hkn : k ≤ n
      · simp only [if_pos hkn]; exact q3 k hkn
      · obtain rfl : k = n + 1 := by omega
        simp only [if_neg (show ¬ n + 1 ≤ n by omega)]
        exact r2
abbrev Inst := List UInt8 × Int
def instE (p : Inst) : List V := [vstr p.1, vint p.2]
theorem inst_len (l : List Inst) : ∀ el, el ∈ l.map instE → el.length = 2 := by
  intro el h; obtain ⟨p, _, rfl⟩ := List.mem_map.1 h; rfl
theorem inst_at {l : List Inst} {k : Nat} (h : k < l.length) : (l.map instE)[k]? = some (instE (nth ([], 0) l k)) := by
  rw [List.getElem?_map, nth_at (d := ([], 0)) h]; rfl
def iks : List (List UInt8) := [[105, 97], [105, 98], [105, 99], [105, 100]]
/-- one step of RightInstances: an instance is added or not -/
def RStep (L : List Int) (k : Nat) (s s' : List Inst × Int) : Prop :=
  (s.1 = [] ∧ k = 3 ∧ ∃ w, GI L 14 [vlst (ints [1, 1, 2, 3, 5])] (vint w) s.2 s'.2 ∧ s'.1 = s.1 ++ [(nth [] iks k, w)]) ∨
  (¬ (s.1 = [] ∧ k = 3) ∧ ∃ m w, GI L 15 [vint 4] (vbool false) s.2 m ∧ GI L 14 [vlst (ints [1, 1, 2, 3, 5])] (vint w) m s'.2 ∧ s'.1 = s.1 ++ [(nth [] iks k, w)]) ∨
  (¬ (s.1 = [] ∧ k = 3) ∧ GI L 15 [vint 4] (vbool true) s.2 s'.2 ∧ s'.1 = s.1)
def RInv (a : Int) (k : Nat) (s : List Inst × Int) : Prop := a ≤ s.2 ∧ s.2 ≤ a + 2 * k ∧ s.1.length ≤ k ∧ (k = 4 → s.1 ≠ []) ∧ ∀ p, p ∈ s.1 → p.1 ∈ iks ∧ 1 ≤ p.2 ∧ p.2 ≤ 5
theorem rstep {L : List Int} (hL : ArgL L) {a : Int} (ha0 : 0 ≤ a) (ha1 : a ≤ 999999000) (k : Nat) (hk : k < 4) (s : List Inst × Int) (hI : RInv a k s) : ∃ s', RStep L k s s' ∧ RInv a (k + 1) s' := by
  obtain ⟨i1, i2, i3, i4, i5⟩ := hI
  have hik : nth [] iks k ∈ iks := nth_mem (by simpa [iks] using hk)
  have hw : ∀ w, w ∈ [(1 : Int), 1, 2, 3, 5] → 1 ≤ w ∧ w ≤ 5 := by intro w h; simp at h; omega
  have hadd : ∀ w, w ∈ [(1 : Int), 1, 2, 3, 5] → ∀ p, p ∈ s.1 ++ [(nth [] iks k, w)] → p.1 ∈ iks ∧ 1 ≤ p.2 ∧ p.2 ≤ 5 := by
    intro w h p hp
    rcases List.mem_append.1 hp with hp | hp
    · exact i5 p hp
    · have : p = (nth [] iks k, w) := by simpa using hp
      subst this; exact ⟨hik, hw w h⟩
  by_cases hc : s.1 = [] ∧ k = 3
  · obtain ⟨w, q1, q2⟩ := g_pick hL (a := s.2) [1, 1, 2, 3, 5] (by omega) (by omega) (by simp) (by simp)
    exact ⟨(s.1 ++ [(nth [] iks k, w)], s.2 + 1), .inl ⟨hc.1, hc.2, w, q2, rfl⟩, by simp only; omega, by simp only; omega, by simp; omega, fun _ => by simp, hadd w q1⟩
  · obtain ⟨b, q2⟩ := g_flip hL (a := s.2) 4 (by omega) (by omega) (by omega) (by omega)
    cases b with
    | true =>
      refine ⟨(s.1, s.2 + 1), .inr (.inr ⟨hc, q2, rfl⟩), by simp only; omega, by simp only; omega, by simp only; omega, fun h4 => ?_, i5⟩
      intro h; exact hc ⟨h, by omega⟩
    | false =>
      obtain ⟨w, q1, q3⟩ := g_pick hL (a := s.2 + 1) [1, 1, 2, 3, 5] (by omega) (by omega) (by simp) (by simp)
      exact ⟨(s.1 ++ [(nth [] iks k, w)], s.2 + 1 + 1), .inr (.inl ⟨hc, s.2 + 1, w, q2, q3, rfl⟩), by simp only; omega, by simp only; omega, by simp; omega, fun _ => by simp, hadd w q1⟩
theorem w_rightInstances {L : List Int} {a : Int} (t : Nat → List Inst × Int) (ht0 : t 0 = ([], a)) (hS : ∀ k, k < 4 → RStep L k (t k) (t (k + 1))) (hInv : ∀ k, k ≤ 4 → RInv a k (t k))  : ImpR Try.prog 98 25 (St L a) [] 114 2 ((t 4).1.map instE) (St L (t 4).2) := by
  have hle := strs_len iks
  have hsl : (strs iks).length = 4 := rfl
  have hikl : iks.length = 4 := rfl
  refine impR_of (cs' := (St L (t 4).2)) (es := ((t 4).1.map instE)) (by kernel_rfl) Try.func98 rfl rfl rfl rfl fun X bl hN => ?_
  refine awp_seq ?_
  refine awp_plain hN rfl ?_
  refine seq_run0 (stp_assign (.dat _) rfl) ?_
  refine awp_seq ?_
  refine awp_plain hN rfl ?_
  refine seq_run0 (stp_assign (.dat _) rfl) ?_
  refine awp_seq ?_
  refine awp_seq ?_
  refine awp_plain hN rfl ?_
  refine seq_run0 (stp_lit [[_], [_], [_], [_]] tyL73 ⟨rfl, .inl ⟨_, rfl, rfl, rfl⟩, rfl, rfl, .inl ⟨_, rfl, rfl, rfl⟩, rfl, rfl, .inl ⟨_, rfl, rfl, rfl⟩, rfl, rfl, .inl ⟨_, rfl, rfl, rfl⟩, rfl, trivial⟩ rfl rfl) ?_
  first | refine seq_run0 (stp_len_lst tyU73 rfl) ?_ | refine seq_run1 (stp_len_row tyU73 rfl rfl) rfl ?_ | refine seq_run0 (stp_len_nil tyU73 rfl) ?_
  refine seq_run0 (stp_move (.dat _) rfl) ?_
  refine awp_block ?_
  refine awp_nilrow 3 9 114 2 rfl rfl rfl ?_
  refine awp_loop (fun k : Nat => [(0, .ptr 0 0), (3, .row 9 ((t k).1.map instE).length), (6, .dat (vlst (strs iks))), (7, .dat (vint ((strs iks).length : Int))), (8, .dat (vint (k : Int)))]) (fun k : Nat => [(0, .box (some bl) 25 ((St L (t k).2).map .dat)), (9, .row 114 2 ((t k).1.map instE))]) (fun k : Nat => k ≤ 4) (fun k : Nat => 4 - k) 0 (by omega) ⟨rfl, by rw [ht0]; rfl, rfl, rfl, rfl, trivial⟩ ⟨by rw [ht0]; rfl, by rw [ht0]; rfl, trivial⟩ (fun _ => rfl) (fun k hI => ?_)
  rcases Nat.lt_or_ge k 4 with hk | hk
  rcases hS k hk with hs | hs | hs
  rotate_left
  by_cases he : (t k).1 = []
  rotate_left 2
  by_cases he : (t k).1 = []
  · -- left out, none
    have hat := strs_at (l := iks) (k := k) (by simpa [iks] using hk)
    have hlen : (t k).1.length ≤ 4 := by have := (hInv k (by omega)).2.2.1; omega
    obtain ⟨hc, iF, hs'⟩ := hs
    have hkey : ¬ nth [] iks k = [105, 100] := by
      have : k = 0 ∨ k = 1 ∨ k = 2 := by have hk3 : k ≠ 3 := fun h => hc ⟨he, h⟩; omega
      rcases this with rfl | rfl | rfl <;> decide
    refine awp_seq ?_
    refine awp_plain hN rfl ?_
    refine seq_run0 (stp_lss rfl rfl) ?_
    refine awp_seq ?_
    refine awp_cond _ rfl (fun h1 => ?_) (fun h1 => (by exfalso; simp at h1; omega))
    try simp at h1
    refine awp_skip ?_
    refine awp_seq ?_
    refine awp_block ?_
    refine awp_seq ?_
    refine awp_plain hN rfl ?_
    first | refine seq_run0 (stp_idxE tyE73 rfl rfl (by omega) (by assumption)) ?_ | refine seq_run0 (stp_idxI tyE73 rfl rfl (by omega) (by assumption)) ?_ | refine seq_run1 (stp_idxR tyE73 rfl rfl (by first | rfl | omega | simp) (by first | omega | (simp; omega))) rfl ?_ | refine seq_run1 (stp_idxRI tyE73 rfl rfl (by first | rfl | omega | simp) (by first | omega | (simp; omega))) rfl ?_
    first | refine seq_run1 (stp_load1 tyS9 rfl rfl) rfl ?_ | refine seq_run0 (stp_loadE1 tyS9 rfl (by first | assumption | rfl) rfl) ?_ | refine seq_run1 (stp_loadR1 tyS9 rfl (by first | rfl | omega | simp) (by first | assumption | exact List.getElem?_set_self (by simp; omega)) rfl) rfl ?_
    first | refine seq_run0 (stp_assign (.dat _) rfl) ?_ | refine seq_run0 (stp_assign (.ptr _ _) rfl) ?_ | refine seq_run0 (stp_assign (.row _ _) rfl) ?_ | refine seq_run0 (stp_assign (.rptr _ _ _ _ _) rfl) ?_ | refine seq_run0 (stp_assign (.mp _) rfl) ?_
    refine awp_seq ?_
    refine awp_plain hN rfl ?_
    first | refine seq_run0 (stp_move (.dat _) rfl) ?_ | refine seq_run0 (stp_move (.ptr _ _) rfl) ?_ | refine seq_run0 (stp_move (.row _ _) rfl) ?_ | refine seq_run0 (stp_move (.rptr _ _ _ _ _) rfl) ?_ | refine seq_run0 (stp_move (.mp _) rfl) ?_
    first | refine seq_run0 (stp_len_lst tyU48 rfl) ?_ | refine seq_run1 (stp_len_row tyU48 rfl rfl) rfl ?_ | refine seq_run0 (stp_len_nil tyU48 rfl) ?_
    refine seq_run0 (stp_eql rfl rfl) ?_
    first | refine seq_run0 (stp_move (.dat _) rfl) ?_ | refine seq_run0 (stp_move (.ptr _ _) rfl) ?_ | refine seq_run0 (stp_move (.row _ _) rfl) ?_ | refine seq_run0 (stp_move (.rptr _ _ _ _ _) rfl) ?_ | refine seq_run0 (stp_move (.mp _) rfl) ?_
    refine seq_split (j := 3) rfl rfl (fun h2 => ?_) (fun h2 => (by exfalso; simp [he] at h2)) rfl
    have qh2 := h2
    try simp at qh2
    first | refine seq_g0 rfl rfl h2 (stp_move (.dat _) rfl) ?_ | refine seq_g0 rfl rfl h2 (stp_move (.ptr _ _) rfl) ?_ | refine seq_g0 rfl rfl h2 (stp_move (.row _ _) rfl) ?_ | refine seq_g0 rfl rfl h2 (stp_move (.rptr _ _ _ _ _) rfl) ?_ | refine seq_g0 rfl rfl h2 (stp_move (.mp _) rfl) ?_
    refine seq_g0 rfl rfl h2 (stp_seql rfl rfl) ?_
    refine seq_run0 (stp_pick_t rfl h2 rfl) ?_
    first | refine seq_run0 (stp_move (.dat _) rfl) ?_ | refine seq_run0 (stp_move (.ptr _ _) rfl) ?_ | refine seq_run0 (stp_move (.row _ _) rfl) ?_ | refine seq_run0 (stp_move (.rptr _ _ _ _ _) rfl) ?_ | refine seq_run0 (stp_move (.mp _) rfl) ?_
    refine seq_split (j := 7) rfl rfl (fun h3 => ?_) (fun h3 => (by exfalso; simp [hkey] at h3)) rfl
    have qh3 := h3
    try simp at qh3
    first | refine seq_g0 rfl rfl h3 (stp_move (.dat _) rfl) ?_ | refine seq_g0 rfl rfl h3 (stp_move (.ptr _ _) rfl) ?_ | refine seq_g0 rfl rfl h3 (stp_move (.row _ _) rfl) ?_ | refine seq_g0 rfl rfl h3 (stp_move (.rptr _ _ _ _ _) rfl) ?_ | refine seq_g0 rfl rfl h3 (stp_move (.mp _) rfl) ?_
    refine seq_g2 rfl rfl h3 (stp_imp (iF) rfl ⟨.inl rfl, trivial⟩ rfl) rfl ?_
    refine seq_g0 rfl rfl h3 (stp_not rfl) ?_
    refine seq_run0 (stp_pick_f rfl h3 rfl) ?_
    refine awp_cond _ rfl (fun h4 => (by exfalso; simp at h4)) (fun h4 => ?_)
    try simp at h4
    refine awp_skip ?_
    refine awp_plain hN rfl ?_
    refine seq_run0 (stp_add rfl rfl (by omega)) ?_
    first | refine seq_run0 (stp_move (.dat _) rfl) ?_ | refine seq_run0 (stp_move (.ptr _ _) rfl) ?_ | refine seq_run0 (stp_move (.row _ _) rfl) ?_ | refine seq_run0 (stp_move (.rptr _ _ _ _ _) rfl) ?_ | refine seq_run0 (stp_move (.mp _) rfl) ?_
    exact ⟨k + 1, by omega, by omega, ⟨rfl, (by rw [hs']; rfl), rfl, rfl, rfl, trivial⟩, ⟨rfl, (by rw [hs']; rfl), trivial⟩⟩
  · -- left out, some
    have hat := strs_at (l := iks) (k := k) (by simpa [iks] using hk)
    have hlen : (t k).1.length ≤ 4 := by have := (hInv k (by omega)).2.2.1; omega
    obtain ⟨hc, iF, hs'⟩ := hs
    refine awp_seq ?_
    refine awp_plain hN rfl ?_
    refine seq_run0 (stp_lss rfl rfl) ?_
    refine awp_seq ?_
    refine awp_cond _ rfl (fun h5 => ?_) (fun h5 => (by exfalso; simp at h5; omega))
    try simp at h5
    refine awp_skip ?_
    refine awp_seq ?_
    refine awp_block ?_
    refine awp_seq ?_
    refine awp_plain hN rfl ?_
    first | refine seq_run0 (stp_idxE tyE73 rfl rfl (by omega) (by assumption)) ?_ | refine seq_run0 (stp_idxI tyE73 rfl rfl (by omega) (by assumption)) ?_ | refine seq_run1 (stp_idxR tyE73 rfl rfl (by first | rfl | omega | simp) (by first | omega | (simp; omega))) rfl ?_ | refine seq_run1 (stp_idxRI tyE73 rfl rfl (by first | rfl | omega | simp) (by first | omega | (simp; omega))) rfl ?_
    first | refine seq_run1 (stp_load1 tyS9 rfl rfl) rfl ?_ | refine seq_run0 (stp_loadE1 tyS9 rfl (by first | assumption | rfl) rfl) ?_ | refine seq_run1 (stp_loadR1 tyS9 rfl (by first | rfl | omega | simp) (by first | assumption | exact List.getElem?_set_self (by simp; omega)) rfl) rfl ?_
    first | refine seq_run0 (stp_assign (.dat _) rfl) ?_ | refine seq_run0 (stp_assign (.ptr _ _) rfl) ?_ | refine seq_run0 (stp_assign (.row _ _) rfl) ?_ | refine seq_run0 (stp_assign (.rptr _ _ _ _ _) rfl) ?_ | refine seq_run0 (stp_assign (.mp _) rfl) ?_
    refine awp_seq ?_
    refine awp_plain hN rfl ?_
    first | refine seq_run0 (stp_move (.dat _) rfl) ?_ | refine seq_run0 (stp_move (.ptr _ _) rfl) ?_ | refine seq_run0 (stp_move (.row _ _) rfl) ?_ | refine seq_run0 (stp_move (.rptr _ _ _ _ _) rfl) ?_ | refine seq_run0 (stp_move (.mp _) rfl) ?_
    first | refine seq_run0 (stp_len_lst tyU48 rfl) ?_ | refine seq_run1 (stp_len_row tyU48 rfl rfl) rfl ?_ | refine seq_run0 (stp_len_nil tyU48 rfl) ?_
    refine seq_run0 (stp_eql rfl rfl) ?_
    first | refine seq_run0 (stp_move (.dat _) rfl) ?_ | refine seq_run0 (stp_move (.ptr _ _) rfl) ?_ | refine seq_run0 (stp_move (.row _ _) rfl) ?_ | refine seq_run0 (stp_move (.rptr _ _ _ _ _) rfl) ?_ | refine seq_run0 (stp_move (.mp _) rfl) ?_
    refine seq_split (j := 3) rfl rfl (fun h6 => (by exfalso; simp [he] at h6)) (fun h6 => ?_) rfl
    have qh6 := h6
    try simp at qh6
    refine seq_skip rfl rfl h6 ?_
    refine seq_skip rfl rfl h6 ?_
    refine seq_run0 (stp_pick_f' rfl h6 rfl) ?_
    first | refine seq_run0 (stp_move (.dat _) rfl) ?_ | refine seq_run0 (stp_move (.ptr _ _) rfl) ?_ | refine seq_run0 (stp_move (.row _ _) rfl) ?_ | refine seq_run0 (stp_move (.rptr _ _ _ _ _) rfl) ?_ | refine seq_run0 (stp_move (.mp _) rfl) ?_
    first | refine seq_g0 rfl rfl rfl (stp_move (.dat _) rfl) ?_ | refine seq_g0 rfl rfl rfl (stp_move (.ptr _ _) rfl) ?_ | refine seq_g0 rfl rfl rfl (stp_move (.row _ _) rfl) ?_ | refine seq_g0 rfl rfl rfl (stp_move (.rptr _ _ _ _ _) rfl) ?_ | refine seq_g0 rfl rfl rfl (stp_move (.mp _) rfl) ?_
    refine seq_g2 rfl rfl rfl (stp_imp (iF) rfl ⟨.inl rfl, trivial⟩ rfl) rfl ?_
    refine seq_g0 rfl rfl rfl (stp_not rfl) ?_
    refine seq_run0 (stp_pick_f rfl rfl rfl) ?_
    refine awp_cond _ rfl (fun h7 => (by exfalso; simp at h7)) (fun h7 => ?_)
    try simp at h7
    refine awp_skip ?_
    refine awp_plain hN rfl ?_
    refine seq_run0 (stp_add rfl rfl (by omega)) ?_
    first | refine seq_run0 (stp_move (.dat _) rfl) ?_ | refine seq_run0 (stp_move (.ptr _ _) rfl) ?_ | refine seq_run0 (stp_move (.row _ _) rfl) ?_ | refine seq_run0 (stp_move (.rptr _ _ _ _ _) rfl) ?_ | refine seq_run0 (stp_move (.mp _) rfl) ?_
    exact ⟨k + 1, by omega, by omega, ⟨rfl, (by rw [hs']; rfl), rfl, rfl, rfl, trivial⟩, ⟨rfl, (by rw [hs']; rfl), trivial⟩⟩
  · -- end
    refine awp_seq ?_
    refine awp_plain hN rfl ?_
    refine seq_run0 (stp_lss rfl rfl) ?_
    refine awp_seq ?_
    refine awp_cond _ rfl (fun h8 => (by exfalso; simp at h8; omega)) (fun h8 => ?_)
    try simp at h8
    refine awp_exit ?_
    refine awp_seq ?_
    refine awp_plain hN rfl ?_
    first | refine seq_run0 (stp_move (.dat _) rfl) ?_ | refine seq_run0 (stp_move (.ptr _ _) rfl) ?_ | refine seq_run0 (stp_move (.row _ _) rfl) ?_ | refine seq_run0 (stp_move (.rptr _ _ _ _ _) rfl) ?_ | refine seq_run0 (stp_move (.mp _) rfl) ?_
    first | refine seq_run0 (stp_assign (.dat _) rfl) ?_ | refine seq_run0 (stp_assign (.ptr _ _) rfl) ?_ | refine seq_run0 (stp_assign (.row _ _) rfl) ?_ | refine seq_run0 (stp_assign (.rptr _ _ _ _ _) rfl) ?_ | refine seq_run0 (stp_assign (.mp _) rfl) ?_
    refine awp_ret ?_
    obtain rfl : k = 4 := by omega
    exact ⟨trivial, ⟨9, rfl, rfl⟩, rfl⟩
  · -- alone
    have hat := strs_at (l := iks) (k := k) (by simpa [iks] using hk)
    have hlen : (t k).1.length ≤ 4 := by have := (hInv k (by omega)).2.2.1; omega
    obtain ⟨he, rfl, w, iP, hs'⟩ := hs
    refine awp_seq ?_
    refine awp_plain hN rfl ?_
    refine seq_run0 (stp_lss rfl rfl) ?_
    refine awp_seq ?_
    refine awp_cond _ rfl (fun h9 => ?_) (fun h9 => (by exfalso; simp at h9; omega))
    try simp at h9
    refine awp_skip ?_
    refine awp_seq ?_
    refine awp_block ?_
    refine awp_seq ?_
    refine awp_plain hN rfl ?_
    first | refine seq_run0 (stp_idxE tyE73 rfl rfl (by omega) (by assumption)) ?_ | refine seq_run0 (stp_idxI tyE73 rfl rfl (by omega) (by assumption)) ?_ | refine seq_run1 (stp_idxR tyE73 rfl rfl (by first | rfl | omega | simp) (by first | omega | (simp; omega))) rfl ?_ | refine seq_run1 (stp_idxRI tyE73 rfl rfl (by first | rfl | omega | simp) (by first | omega | (simp; omega))) rfl ?_
    first | refine seq_run1 (stp_load1 tyS9 rfl rfl) rfl ?_ | refine seq_run0 (stp_loadE1 tyS9 rfl (by first | assumption | rfl) rfl) ?_ | refine seq_run1 (stp_loadR1 tyS9 rfl (by first | rfl | omega | simp) (by first | assumption | exact List.getElem?_set_self (by simp; omega)) rfl) rfl ?_
    first | refine seq_run0 (stp_assign (.dat _) rfl) ?_ | refine seq_run0 (stp_assign (.ptr _ _) rfl) ?_ | refine seq_run0 (stp_assign (.row _ _) rfl) ?_ | refine seq_run0 (stp_assign (.rptr _ _ _ _ _) rfl) ?_ | refine seq_run0 (stp_assign (.mp _) rfl) ?_
    refine awp_seq ?_
    refine awp_plain hN rfl ?_
    first | refine seq_run0 (stp_move (.dat _) rfl) ?_ | refine seq_run0 (stp_move (.ptr _ _) rfl) ?_ | refine seq_run0 (stp_move (.row _ _) rfl) ?_ | refine seq_run0 (stp_move (.rptr _ _ _ _ _) rfl) ?_ | refine seq_run0 (stp_move (.mp _) rfl) ?_
    first | refine seq_run0 (stp_len_lst tyU48 rfl) ?_ | refine seq_run1 (stp_len_row tyU48 rfl rfl) rfl ?_ | refine seq_run0 (stp_len_nil tyU48 rfl) ?_
    refine seq_run0 (stp_eql rfl rfl) ?_
    first | refine seq_run0 (stp_move (.dat _) rfl) ?_ | refine seq_run0 (stp_move (.ptr _ _) rfl) ?_ | refine seq_run0 (stp_move (.row _ _) rfl) ?_ | refine seq_run0 (stp_move (.rptr _ _ _ _ _) rfl) ?_ | refine seq_run0 (stp_move (.mp _) rfl) ?_
    refine seq_split (j := 3) rfl rfl (fun h10 => ?_) (fun h10 => (by exfalso; simp [he] at h10)) rfl
    have qh10 := h10
    try simp at qh10
    first | refine seq_g0 rfl rfl h10 (stp_move (.dat _) rfl) ?_ | refine seq_g0 rfl rfl h10 (stp_move (.ptr _ _) rfl) ?_ | refine seq_g0 rfl rfl h10 (stp_move (.row _ _) rfl) ?_ | refine seq_g0 rfl rfl h10 (stp_move (.rptr _ _ _ _ _) rfl) ?_ | refine seq_g0 rfl rfl h10 (stp_move (.mp _) rfl) ?_
    refine seq_g0 rfl rfl h10 (stp_seql rfl rfl) ?_
    refine seq_run0 (stp_pick_t rfl h10 rfl) ?_
    first | refine seq_run0 (stp_move (.dat _) rfl) ?_ | refine seq_run0 (stp_move (.ptr _ _) rfl) ?_ | refine seq_run0 (stp_move (.row _ _) rfl) ?_ | refine seq_run0 (stp_move (.rptr _ _ _ _ _) rfl) ?_ | refine seq_run0 (stp_move (.mp _) rfl) ?_
    refine seq_split (j := 7) rfl rfl (fun h11 => (by exfalso; revert h11; decide)) (fun h11 => ?_) rfl
    have qh11 := h11
    try simp at qh11
    refine seq_skip rfl rfl h11 ?_
    refine seq_skip rfl rfl h11 ?_
    refine seq_skip rfl rfl h11 ?_
    refine seq_run0 (stp_pick_t' rfl h11 rfl) ?_
    refine awp_cond _ rfl (fun h12 => ?_) (fun h12 => (by exfalso; simp at h12))
    try simp at h12
    refine awp_plain hN rfl ?_
    first | refine seq_run0 (stp_move (.dat _) rfl) ?_ | refine seq_run0 (stp_move (.ptr _ _) rfl) ?_ | refine seq_run0 (stp_move (.row _ _) rfl) ?_ | refine seq_run0 (stp_move (.rptr _ _ _ _ _) rfl) ?_ | refine seq_run0 (stp_move (.mp _) rfl) ?_
    first | refine seq_run0 (stp_move (.dat _) rfl) ?_ | refine seq_run0 (stp_move (.ptr _ _) rfl) ?_ | refine seq_run0 (stp_move (.row _ _) rfl) ?_ | refine seq_run0 (stp_move (.rptr _ _ _ _ _) rfl) ?_ | refine seq_run0 (stp_move (.mp _) rfl) ?_
    first | refine seq_run0 (stp_move (.dat _) rfl) ?_ | refine seq_run0 (stp_move (.ptr _ _) rfl) ?_ | refine seq_run0 (stp_move (.row _ _) rfl) ?_ | refine seq_run0 (stp_move (.rptr _ _ _ _ _) rfl) ?_ | refine seq_run0 (stp_move (.mp _) rfl) ?_
    refine seq_run0 (stp_lit [[_], [_], [_], [_], [_]] tyL22 ⟨rfl, .inl ⟨_, rfl, rfl, rfl⟩, rfl, rfl, .inl ⟨_, rfl, rfl, rfl⟩, rfl, rfl, .inl ⟨_, rfl, rfl, rfl⟩, rfl, rfl, .inl ⟨_, rfl, rfl, rfl⟩, rfl, rfl, .inl ⟨_, rfl, rfl, rfl⟩, rfl, trivial⟩ rfl rfl) ?_
    refine seq_run2 (stp_imp (iP) rfl ⟨.inl rfl, trivial⟩ rfl) rfl ?_
    refine seq_run0 (stp_build [(0, [_]), (1, [_])] tyZ114 tyP114 rfl ⟨rfl, .inl ⟨_, rfl, rfl, rfl⟩, rfl, rfl, .inl ⟨_, rfl, rfl, rfl⟩, rfl, trivial⟩) ?_
    refine seq_run0 (stp_lit [_] tyL48 ⟨rfl, .inr rfl, rfl, trivial⟩ rfl rfl) ?_
    first | refine seq_run2 (stp_app tyL48 rfl rfl (by simp) (by first | (intro el h; simp only [List.mem_singleton] at h; subst h; rfl) | assumption | simp) (by simp; omega) (by simp; omega)) rfl ?_ | refine seq_run2 (stp_appN 4 tyL48 rfl rfl (by simp) (by first | (intro el h; simp only [List.mem_singleton] at h; subst h; rfl) | assumption | simp) (by simp) (by simp)) rfl ?_
    first | refine seq_run0 (stp_assign (.dat _) rfl) ?_ | refine seq_run0 (stp_assign (.ptr _ _) rfl) ?_ | refine seq_run0 (stp_assign (.row _ _) rfl) ?_ | refine seq_run0 (stp_assign (.rptr _ _ _ _ _) rfl) ?_ | refine seq_run0 (stp_assign (.mp _) rfl) ?_
    refine awp_plain hN rfl ?_
    refine seq_run0 (stp_add rfl rfl (by omega)) ?_
    first | refine seq_run0 (stp_move (.dat _) rfl) ?_ | refine seq_run0 (stp_move (.ptr _ _) rfl) ?_ | refine seq_run0 (stp_move (.row _ _) rfl) ?_ | refine seq_run0 (stp_move (.rptr _ _ _ _ _) rfl) ?_ | refine seq_run0 (stp_move (.mp _) rfl) ?_
    exact ⟨3 + 1, by omega, by omega, ⟨rfl, (by rw [hs', List.map_append]; rfl), rfl, rfl, rfl, trivial⟩, ⟨rfl, (by rw [hs', List.map_append]; rfl), trivial⟩⟩
  · -- drawn, none
    have hat := strs_at (l := iks) (k := k) (by simpa [iks] using hk)
    have hlen : (t k).1.length ≤ 4 := by have := (hInv k (by omega)).2.2.1; omega
    obtain ⟨hc, m, w, iF, iP, hs'⟩ := hs
    have hkey : ¬ nth [] iks k = [105, 100] := by
      have : k = 0 ∨ k = 1 ∨ k = 2 := by have hk3 : k ≠ 3 := fun h => hc ⟨he, h⟩; omega
      rcases this with rfl | rfl | rfl <;> decide
    refine awp_seq ?_
    refine awp_plain hN rfl ?_
    refine seq_run0 (stp_lss rfl rfl) ?_
    refine awp_seq ?_
    refine awp_cond _ rfl (fun h13 => ?_) (fun h13 => (by exfalso; simp at h13; omega))
    try simp at h13
    refine awp_skip ?_
    refine awp_seq ?_
    refine awp_block ?_
    refine awp_seq ?_
    refine awp_plain hN rfl ?_
    first | refine seq_run0 (stp_idxE tyE73 rfl rfl (by omega) (by assumption)) ?_ | refine seq_run0 (stp_idxI tyE73 rfl rfl (by omega) (by assumption)) ?_ | refine seq_run1 (stp_idxR tyE73 rfl rfl (by first | rfl | omega | simp) (by first | omega | (simp; omega))) rfl ?_ | refine seq_run1 (stp_idxRI tyE73 rfl rfl (by first | rfl | omega | simp) (by first | omega | (simp; omega))) rfl ?_
    first | refine seq_run1 (stp_load1 tyS9 rfl rfl) rfl ?_ | refine seq_run0 (stp_loadE1 tyS9 rfl (by first | assumption | rfl) rfl) ?_ | refine seq_run1 (stp_loadR1 tyS9 rfl (by first | rfl | omega | simp) (by first | assumption | exact List.getElem?_set_self (by simp; omega)) rfl) rfl ?_
    first | refine seq_run0 (stp_assign (.dat _) rfl) ?_ | refine seq_run0 (stp_assign (.ptr _ _) rfl) ?_ | refine seq_run0 (stp_assign (.row _ _) rfl) ?_ | refine seq_run0 (stp_assign (.rptr _ _ _ _ _) rfl) ?_ | refine seq_run0 (stp_assign (.mp _) rfl) ?_
    refine awp_seq ?_
    refine awp_plain hN rfl ?_
    first | refine seq_run0 (stp_move (.dat _) rfl) ?_ | refine seq_run0 (stp_move (.ptr _ _) rfl) ?_ | refine seq_run0 (stp_move (.row _ _) rfl) ?_ | refine seq_run0 (stp_move (.rptr _ _ _ _ _) rfl) ?_ | refine seq_run0 (stp_move (.mp _) rfl) ?_
    first | refine seq_run0 (stp_len_lst tyU48 rfl) ?_ | refine seq_run1 (stp_len_row tyU48 rfl rfl) rfl ?_ | refine seq_run0 (stp_len_nil tyU48 rfl) ?_
    refine seq_run0 (stp_eql rfl rfl) ?_
    first | refine seq_run0 (stp_move (.dat _) rfl) ?_ | refine seq_run0 (stp_move (.ptr _ _) rfl) ?_ | refine seq_run0 (stp_move (.row _ _) rfl) ?_ | refine seq_run0 (stp_move (.rptr _ _ _ _ _) rfl) ?_ | refine seq_run0 (stp_move (.mp _) rfl) ?_
    refine seq_split (j := 3) rfl rfl (fun h14 => ?_) (fun h14 => (by exfalso; simp [he] at h14)) rfl
    have qh14 := h14
    try simp at qh14
    first | refine seq_g0 rfl rfl h14 (stp_move (.dat _) rfl) ?_ | refine seq_g0 rfl rfl h14 (stp_move (.ptr _ _) rfl) ?_ | refine seq_g0 rfl rfl h14 (stp_move (.row _ _) rfl) ?_ | refine seq_g0 rfl rfl h14 (stp_move (.rptr _ _ _ _ _) rfl) ?_ | refine seq_g0 rfl rfl h14 (stp_move (.mp _) rfl) ?_
    refine seq_g0 rfl rfl h14 (stp_seql rfl rfl) ?_
    refine seq_run0 (stp_pick_t rfl h14 rfl) ?_
    first | refine seq_run0 (stp_move (.dat _) rfl) ?_ | refine seq_run0 (stp_move (.ptr _ _) rfl) ?_ | refine seq_run0 (stp_move (.row _ _) rfl) ?_ | refine seq_run0 (stp_move (.rptr _ _ _ _ _) rfl) ?_ | refine seq_run0 (stp_move (.mp _) rfl) ?_
    refine seq_split (j := 7) rfl rfl (fun h15 => ?_) (fun h15 => (by exfalso; simp [hkey] at h15)) rfl
    have qh15 := h15
    try simp at qh15
    first | refine seq_g0 rfl rfl h15 (stp_move (.dat _) rfl) ?_ | refine seq_g0 rfl rfl h15 (stp_move (.ptr _ _) rfl) ?_ | refine seq_g0 rfl rfl h15 (stp_move (.row _ _) rfl) ?_ | refine seq_g0 rfl rfl h15 (stp_move (.rptr _ _ _ _ _) rfl) ?_ | refine seq_g0 rfl rfl h15 (stp_move (.mp _) rfl) ?_
    refine seq_g2 rfl rfl h15 (stp_imp (iF) rfl ⟨.inl rfl, trivial⟩ rfl) rfl ?_
    refine seq_g0 rfl rfl h15 (stp_not rfl) ?_
    refine seq_run0 (stp_pick_f rfl h15 rfl) ?_
    refine awp_cond _ rfl (fun h16 => ?_) (fun h16 => (by exfalso; simp at h16))
    try simp at h16
    refine awp_plain hN rfl ?_
    first | refine seq_run0 (stp_move (.dat _) rfl) ?_ | refine seq_run0 (stp_move (.ptr _ _) rfl) ?_ | refine seq_run0 (stp_move (.row _ _) rfl) ?_ | refine seq_run0 (stp_move (.rptr _ _ _ _ _) rfl) ?_ | refine seq_run0 (stp_move (.mp _) rfl) ?_
    first | refine seq_run0 (stp_move (.dat _) rfl) ?_ | refine seq_run0 (stp_move (.ptr _ _) rfl) ?_ | refine seq_run0 (stp_move (.row _ _) rfl) ?_ | refine seq_run0 (stp_move (.rptr _ _ _ _ _) rfl) ?_ | refine seq_run0 (stp_move (.mp _) rfl) ?_
    first | refine seq_run0 (stp_move (.dat _) rfl) ?_ | refine seq_run0 (stp_move (.ptr _ _) rfl) ?_ | refine seq_run0 (stp_move (.row _ _) rfl) ?_ | refine seq_run0 (stp_move (.rptr _ _ _ _ _) rfl) ?_ | refine seq_run0 (stp_move (.mp _) rfl) ?_
    refine seq_run0 (stp_lit [[_], [_], [_], [_], [_]] tyL22 ⟨rfl, .inl ⟨_, rfl, rfl, rfl⟩, rfl, rfl, .inl ⟨_, rfl, rfl, rfl⟩, rfl, rfl, .inl ⟨_, rfl, rfl, rfl⟩, rfl, rfl, .inl ⟨_, rfl, rfl, rfl⟩, rfl, rfl, .inl ⟨_, rfl, rfl, rfl⟩, rfl, trivial⟩ rfl rfl) ?_
    refine seq_run2 (stp_imp (iP) rfl ⟨.inl rfl, trivial⟩ rfl) rfl ?_
    refine seq_run0 (stp_build [(0, [_]), (1, [_])] tyZ114 tyP114 rfl ⟨rfl, .inl ⟨_, rfl, rfl, rfl⟩, rfl, rfl, .inl ⟨_, rfl, rfl, rfl⟩, rfl, trivial⟩) ?_
    refine seq_run0 (stp_lit [_] tyL48 ⟨rfl, .inr rfl, rfl, trivial⟩ rfl rfl) ?_
    first | refine seq_run2 (stp_app tyL48 rfl rfl (by simp) (by first | (intro el h; simp only [List.mem_singleton] at h; subst h; rfl) | assumption | simp) (by simp; omega) (by simp; omega)) rfl ?_ | refine seq_run2 (stp_appN 7 tyL48 rfl rfl (by simp) (by first | (intro el h; simp only [List.mem_singleton] at h; subst h; rfl) | assumption | simp) (by simp) (by simp)) rfl ?_
    first | refine seq_run0 (stp_assign (.dat _) rfl) ?_ | refine seq_run0 (stp_assign (.ptr _ _) rfl) ?_ | refine seq_run0 (stp_assign (.row _ _) rfl) ?_ | refine seq_run0 (stp_assign (.rptr _ _ _ _ _) rfl) ?_ | refine seq_run0 (stp_assign (.mp _) rfl) ?_
    refine awp_plain hN rfl ?_
    refine seq_run0 (stp_add rfl rfl (by omega)) ?_
    first | refine seq_run0 (stp_move (.dat _) rfl) ?_ | refine seq_run0 (stp_move (.ptr _ _) rfl) ?_ | refine seq_run0 (stp_move (.row _ _) rfl) ?_ | refine seq_run0 (stp_move (.rptr _ _ _ _ _) rfl) ?_ | refine seq_run0 (stp_move (.mp _) rfl) ?_
    exact ⟨k + 1, by omega, by omega, ⟨rfl, (by rw [hs', List.map_append]; rfl), rfl, rfl, rfl, trivial⟩, ⟨rfl, (by rw [hs', List.map_append]; rfl), trivial⟩⟩
  · -- drawn, some
    have hat := strs_at (l := iks) (k := k) (by simpa [iks] using hk)
    have hlen : (t k).1.length ≤ 4 := by have := (hInv k (by omega)).2.2.1; omega
    obtain ⟨hc, m, w, iF, iP, hs'⟩ := hs
    refine awp_seq ?_
    refine awp_plain hN rfl ?_
    refine seq_run0 (stp_lss rfl rfl) ?_
    refine awp_seq ?_
    refine awp_cond _ rfl (fun h17 => ?_) (fun h17 => (by exfalso; simp at h17; omega))
    try simp at h17
    refine awp_skip ?_
    refine awp_seq ?_
    refine awp_block ?_
    refine awp_seq ?_
    refine awp_plain hN rfl ?_
    first | refine seq_run0 (stp_idxE tyE73 rfl rfl (by omega) (by assumption)) ?_ | refine seq_run0 (stp_idxI tyE73 rfl rfl (by omega) (by assumption)) ?_ | refine seq_run1 (stp_idxR tyE73 rfl rfl (by first | rfl | omega | simp) (by first | omega | (simp; omega))) rfl ?_ | refine seq_run1 (stp_idxRI tyE73 rfl rfl (by first | rfl | omega | simp) (by first | omega | (simp; omega))) rfl ?_
    first | refine seq_run1 (stp_load1 tyS9 rfl rfl) rfl ?_ | refine seq_run0 (stp_loadE1 tyS9 rfl (by first | assumption | rfl) rfl) ?_ | refine seq_run1 (stp_loadR1 tyS9 rfl (by first | rfl | omega | simp) (by first | assumption | exact List.getElem?_set_self (by simp; omega)) rfl) rfl ?_
    first | refine seq_run0 (stp_assign (.dat _) rfl) ?_ | refine seq_run0 (stp_assign (.ptr _ _) rfl) ?_ | refine seq_run0 (stp_assign (.row _ _) rfl) ?_ | refine seq_run0 (stp_assign (.rptr _ _ _ _ _) rfl) ?_ | refine seq_run0 (stp_assign (.mp _) rfl) ?_
    refine awp_seq ?_
    refine awp_plain hN rfl ?_
    first | refine seq_run0 (stp_move (.dat _) rfl) ?_ | refine seq_run0 (stp_move (.ptr _ _) rfl) ?_ | refine seq_run0 (stp_move (.row _ _) rfl) ?_ | refine seq_run0 (stp_move (.rptr _ _ _ _ _) rfl) ?_ | refine seq_run0 (stp_move (.mp _) rfl) ?_
    first | refine seq_run0 (stp_len_lst tyU48 rfl) ?_ | refine seq_run1 (stp_len_row tyU48 rfl rfl) rfl ?_ | refine seq_run0 (stp_len_nil tyU48 rfl) ?_
    refine seq_run0 (stp_eql rfl rfl) ?_
    first | refine seq_run0 (stp_move (.dat _) rfl) ?_ | refine seq_run0 (stp_move (.ptr _ _) rfl) ?_ | refine seq_run0 (stp_move (.row _ _) rfl) ?_ | refine seq_run0 (stp_move (.rptr _ _ _ _ _) rfl) ?_ | refine seq_run0 (stp_move (.mp _) rfl) ?_
    refine seq_split (j := 3) rfl rfl (fun h18 => (by exfalso; simp [he] at h18)) (fun h18 => ?_) rfl
    have qh18 := h18
    try simp at qh18
    refine seq_skip rfl rfl h18 ?_
    refine seq_skip rfl rfl h18 ?_
    refine seq_run0 (stp_pick_f' rfl h18 rfl) ?_
    first | refine seq_run0 (stp_move (.dat _) rfl) ?_ | refine seq_run0 (stp_move (.ptr _ _) rfl) ?_ | refine seq_run0 (stp_move (.row _ _) rfl) ?_ | refine seq_run0 (stp_move (.rptr _ _ _ _ _) rfl) ?_ | refine seq_run0 (stp_move (.mp _) rfl) ?_
    first | refine seq_g0 rfl rfl rfl (stp_move (.dat _) rfl) ?_ | refine seq_g0 rfl rfl rfl (stp_move (.ptr _ _) rfl) ?_ | refine seq_g0 rfl rfl rfl (stp_move (.row _ _) rfl) ?_ | refine seq_g0 rfl rfl rfl (stp_move (.rptr _ _ _ _ _) rfl) ?_ | refine seq_g0 rfl rfl rfl (stp_move (.mp _) rfl) ?_
    refine seq_g2 rfl rfl rfl (stp_imp (iF) rfl ⟨.inl rfl, trivial⟩ rfl) rfl ?_
    refine seq_g0 rfl rfl rfl (stp_not rfl) ?_
    refine seq_run0 (stp_pick_f rfl rfl rfl) ?_
    refine awp_cond _ rfl (fun h19 => ?_) (fun h19 => (by exfalso; simp at h19))
    try simp at h19
    refine awp_plain hN rfl ?_
    first | refine seq_run0 (stp_move (.dat _) rfl) ?_ | refine seq_run0 (stp_move (.ptr _ _) rfl) ?_ | refine seq_run0 (stp_move (.row _ _) rfl) ?_ | refine seq_run0 (stp_move (.rptr _ _ _ _ _) rfl) ?_ | refine seq_run0 (stp_move (.mp _) rfl) ?_
    first | refine seq_run0 (stp_move (.dat _) rfl) ?_ | refine seq_run0 (stp_move (.ptr _ _) rfl) ?_ | refine seq_run0 (stp_move (.row _ _) rfl) ?_ | refine seq_run0 (stp_move (.rptr _ _ _ _ _) rfl) ?_ | refine seq_run0 (stp_move (.mp _) rfl) ?_
    first | refine seq_run0 (stp_move (.dat _) rfl) ?_ | refine seq_run0 (stp_move (.ptr _ _) rfl) ?_ | refine seq_run0 (stp_move (.row _ _) rfl) ?_ | refine seq_run0 (stp_move (.rptr _ _ _ _ _) rfl) ?_ | refine seq_run0 (stp_move (.mp _) rfl) ?_
    refine seq_run0 (stp_lit [[_], [_], [_], [_], [_]] tyL22 ⟨rfl, .inl ⟨_, rfl, rfl, rfl⟩, rfl, rfl, .inl ⟨_, rfl, rfl, rfl⟩, rfl, rfl, .inl ⟨_, rfl, rfl, rfl⟩, rfl, rfl, .inl ⟨_, rfl, rfl, rfl⟩, rfl, rfl, .inl ⟨_, rfl, rfl, rfl⟩, rfl, trivial⟩ rfl rfl) ?_
    refine seq_run2 (stp_imp (iP) rfl ⟨.inl rfl, trivial⟩ rfl) rfl ?_
    refine seq_run0 (stp_build [(0, [_]), (1, [_])] tyZ114 tyP114 rfl ⟨rfl, .inl ⟨_, rfl, rfl, rfl⟩, rfl, rfl, .inl ⟨_, rfl, rfl, rfl⟩, rfl, trivial⟩) ?_
    refine seq_run0 (stp_lit [_] tyL48 ⟨rfl, .inr rfl, rfl, trivial⟩ rfl rfl) ?_
    first | refine seq_run2 (stp_app tyL48 rfl rfl (by simp) (by first | (intro el h; simp only [List.mem_singleton] at h; subst h; rfl) | assumption | simp) (by simp; omega) (by simp; omega)) rfl ?_ | refine seq_run2 (stp_appN 10 tyL48 rfl rfl (by simp) (by first | (intro el h; simp only [List.mem_singleton] at h; subst h; rfl) | assumption | simp) (by simp) (by simp)) rfl ?_
    first | refine seq_run0 (stp_assign (.dat _) rfl) ?_ | refine seq_run0 (stp_assign (.ptr _ _) rfl) ?_ | refine seq_run0 (stp_assign (.row _ _) rfl) ?_ | refine seq_run0 (stp_assign (.rptr _ _ _ _ _) rfl) ?_ | refine seq_run0 (stp_assign (.mp _) rfl) ?_
    refine awp_plain hN rfl ?_
    refine seq_run0 (stp_add rfl rfl (by omega)) ?_
    first | refine seq_run0 (stp_move (.dat _) rfl) ?_ | refine seq_run0 (stp_move (.ptr _ _) rfl) ?_ | refine seq_run0 (stp_move (.row _ _) rfl) ?_ | refine seq_run0 (stp_move (.rptr _ _ _ _ _) rfl) ?_ | refine seq_run0 (stp_move (.mp _) rfl) ?_
    exact ⟨k + 1, by omega, by omega, ⟨rfl, (by rw [hs', List.map_append]; rfl), rfl, rfl, rfl, trivial⟩, ⟨rfl, (by rw [hs', List.map_append]; rfl), trivial⟩⟩
end Go.Proofs.Ytmcegaabopcmfaa
