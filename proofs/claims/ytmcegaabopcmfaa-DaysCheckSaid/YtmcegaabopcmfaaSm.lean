/- The stream: its functions draw numbers; each gives some value of its range. -/
import Derived.Test.YtmcegaabopcmfaaKy
namespace Go.Proofs.Ytmcegaabopcmfaa
open Go.RowKit
set_option linter.unusedVariables false
set_option maxRecDepth 20000

abbrev St (L : List Int) (a : Int) : List V := [vlst (ints L), vint a]
/-- what the law is given -/
structure ArgL (L : List Int) : Prop where
  len : L.length ≤ 9223372036854775807
  rng : ∀ n, n ∈ L → -9223372036854775808 ≤ n ∧ n ≤ 9223372036854775807
abbrev GI (L : List Int) (fn : Nat) (args : List V) (res : V) (a a' : Int) : Prop := Imp Try.prog fn 25 (St L a) args res (St L a')
def blw (x n : Int) : Int := if n < 1 then 0 else x % n
theorem blw_rng {x n : Int} (h : 1 ≤ n) : 0 ≤ blw x n ∧ blw x n < n := by
  unfold blw; rw [if_neg (by omega)]; exact ⟨Int.emod_nonneg _ (by omega), Int.emod_lt_of_pos _ (by omega)⟩
theorem wrap_in (x : Int) : -9223372036854775808 ≤ IntKind.i64.wrap x ∧ IntKind.i64.wrap x ≤ 9223372036854775807 := by
  rw [IntKind.wrap_i64]; omega
def nxR (L : List Int) (a n : Int) : Int :=
  if L.length = 0 then blw ((a + 1) * 7919) n else
  blw (IntKind.i64.wrap (blw (nth 0 L ((a + 1 - 1) % ((ints L).length : Int)).toNat) 1073741824 + IntKind.i64.wrap ((a + 1 - 1) / ((ints L).length : Int) * (7919 + (a + 1 - 1) % ((ints L).length : Int))))) n
theorem nxR_nil {L : List Int} {a n : Int} (h : L = []) : blw ((a + 1) * 7919) n = nxR L a n := by unfold nxR; rw [h]; rfl
theorem nxR_cons {L : List Int} {a n : Int} (h : L.length ≠ 0) : blw (IntKind.i64.wrap (blw (nth 0 L ((a + 1 - 1) % ((ints L).length : Int)).toNat) 1073741824 + IntKind.i64.wrap ((a + 1 - 1) / ((ints L).length : Int) * (7919 + (a + 1 - 1) % ((ints L).length : Int))))) n = nxR L a n := by
  unfold nxR; rw [if_neg h]
theorem traj {β : Type} {S : β → Int → Int → Prop} {B : Int} (C : Int) (hC : 0 ≤ C) (h : ∀ a, 0 ≤ a → a ≤ B → ∃ x a', S x a a' ∧ a ≤ a' ∧ a' ≤ a + C) [Inhabited β] : ∀ (n : Nat) (a : Int), 0 ≤ a → a + n * C ≤ B →
    ∃ (xs : Nat → β) (ats : Nat → Int), ats 0 = a ∧ (∀ k, k < n → S (xs k) (ats k) (ats (k + 1))) ∧ ∀ k, k ≤ n → a ≤ ats k ∧ ats k ≤ a + k * C := by
  intro n
  induction n with
  | zero => intro a _ _; exact ⟨fun _ => default, fun _ => a, rfl, fun k hk => by omega, fun k hk => by
      obtain rfl : k = 0 := by omega
      simp⟩
  | succ n ih =>
    intro a h0 hB
    have e1 : ((n + 1 : Nat) : Int) * C = n * C + C := by rw [Int.natCast_add, Int.add_mul]; simp
    obtain ⟨xs, ats, q1, q2, q3⟩ := ih a h0 (by omega)
    have q4 := q3 n (Nat.le_refl _)
    obtain ⟨x, a', r1, r2, r3⟩ := h (ats n) (by omega) (by omega)
    refine ⟨fun k => if k < n then xs k else x, fun k => if k ≤ n then ats k else a', by simp [q1], fun k hk => ?_, fun k hk => ?_⟩
    · by_cases hkn : k < n
      · simp only [if_pos hkn, if_pos (show k ≤ n by omega), if_pos (show k + 1 ≤ n by omega)]
        exact q2 k hkn
      · obtain rfl : k = n := by omega
        simp only [if_neg (Nat.lt_irrefl k), if_pos (Nat.le_refl k), if_neg (show ¬ k + 1 ≤ k by omega)]
        exact r1
    · by_cases hkn : k ≤ n
      · simp only [if_pos hkn]; exact q3 k hkn
      · obtain rfl : k = n + 1 := by omega
        simp only [if_neg (show ¬ n + 1 ≤ n by omega)]
        omega
theorem k_next (L : List Int) (hL : ArgL L) (a n : Int) (ha0 : 0 ≤ a) (ha1 : a ≤ 1000000000) (hn : n ≤ 9223372036854775807)  : Imp Try.prog 16 25 (St L a) [vint n] (resOf [vint (nxR L a n)]) (St L (a + 1)) := by
  have hle := ints_len L
  have hln : (ints L).length = L.length := by simp
  have hlen := hL.len
  refine imp_of (us := [vint (nxR L a n)]) (cs' := (St L (a + 1))) (by kernel_rfl) Try.func16 rfl rfl rfl rfl fun X bl hN => ?_
  refine awp_seq ?_
  refine awp_plain hN rfl ?_
  refine seq_run0 (stp_assign (.dat _) rfl) ?_
  refine awp_seq ?_
  refine awp_plain hN rfl ?_
  first | refine seq_run0 (stp_move (.dat _) rfl) ?_ | refine seq_run0 (stp_move (.ptr _ _) rfl) ?_ | refine seq_run0 (stp_move (.row _ _) rfl) ?_ | refine seq_run0 (stp_move (.rptr _ _ _ _ _) rfl) ?_ | refine seq_run0 (stp_move (.mp _) rfl) ?_
  first | refine seq_run0 (stp_nilP rfl) ?_ | refine seq_run0 (stp_nilE rfl) ?_ | refine seq_run0 (stp_nilR rfl) ?_
  first | refine seq_run0 (stp_fldP tyF25_1 rfl) ?_ | refine seq_run0 (stp_fldE tyF25_1 rfl) ?_ | refine seq_run0 (stp_fldR tyF25_1 rfl) ?_
  first | refine seq_run1 (stp_load1 tyS3 rfl rfl) rfl ?_ | refine seq_run0 (stp_loadE1 tyS3 rfl (by first | assumption | rfl) rfl) ?_ | refine seq_run1 (stp_loadR1 tyS3 rfl (by first | rfl | omega | simp) (by first | assumption | exact List.getElem?_set_self (by simp; omega)) rfl) rfl ?_
  refine seq_run0 (stp_add rfl rfl (by omega)) ?_
  first | refine seq_run0 (stp_nilP rfl) ?_ | refine seq_run0 (stp_nilE rfl) ?_ | refine seq_run0 (stp_nilR rfl) ?_
  first | refine seq_run0 (stp_fldP tyF25_1 rfl) ?_ | refine seq_run0 (stp_fldE tyF25_1 rfl) ?_ | refine seq_run0 (stp_fldR tyF25_1 rfl) ?_
  first | refine seq_run2 (stp_store1 tyS3 rfl rfl rfl rfl) rfl ?_ | refine seq_run2 (stp_storeS tyS3 rfl rfl rfl rfl) rfl ?_ | refine seq_run2 (stp_storeR tyS3 rfl rfl rfl (by first | rfl | omega | simp) (by first | assumption | exact List.getElem?_set_self (by simp; omega)) rfl) rfl ?_
  refine awp_seq ?_
  refine awp_seq ?_
  refine awp_plain hN rfl ?_
  first | refine seq_run0 (stp_move (.dat _) rfl) ?_ | refine seq_run0 (stp_move (.ptr _ _) rfl) ?_ | refine seq_run0 (stp_move (.row _ _) rfl) ?_ | refine seq_run0 (stp_move (.rptr _ _ _ _ _) rfl) ?_ | refine seq_run0 (stp_move (.mp _) rfl) ?_
  first | refine seq_run0 (stp_nilP rfl) ?_ | refine seq_run0 (stp_nilE rfl) ?_ | refine seq_run0 (stp_nilR rfl) ?_
  first | refine seq_run0 (stp_fldP tyF25_0 rfl) ?_ | refine seq_run0 (stp_fldE tyF25_0 rfl) ?_ | refine seq_run0 (stp_fldR tyF25_0 rfl) ?_
  first | refine seq_run1 (stp_load1 tyS22 rfl rfl) rfl ?_ | refine seq_run0 (stp_loadE1 tyS22 rfl (by first | assumption | rfl) rfl) ?_ | refine seq_run1 (stp_loadR1 tyS22 rfl (by first | rfl | omega | simp) (by first | assumption | exact List.getElem?_set_self (by simp; omega)) rfl) rfl ?_
  first | refine seq_run0 (stp_len_lst tyU22 rfl) ?_ | refine seq_run1 (stp_len_row tyU22 rfl rfl) rfl ?_ | refine seq_run0 (stp_len_nil tyU22 rfl) ?_
  refine seq_run0 (stp_eql rfl rfl) ?_
  refine awp_cond _ rfl (fun h1 => ?_) (fun h1 => ?_)
  · -- yes
    try simp at h1
    refine awp_seq ?_
    refine awp_plain hN rfl ?_
    first | refine seq_run0 (stp_move (.dat _) rfl) ?_ | refine seq_run0 (stp_move (.ptr _ _) rfl) ?_ | refine seq_run0 (stp_move (.row _ _) rfl) ?_ | refine seq_run0 (stp_move (.rptr _ _ _ _ _) rfl) ?_ | refine seq_run0 (stp_move (.mp _) rfl) ?_
    first | refine seq_run0 (stp_nilP rfl) ?_ | refine seq_run0 (stp_nilE rfl) ?_ | refine seq_run0 (stp_nilR rfl) ?_
    first | refine seq_run0 (stp_fldP tyF25_1 rfl) ?_ | refine seq_run0 (stp_fldE tyF25_1 rfl) ?_ | refine seq_run0 (stp_fldR tyF25_1 rfl) ?_
    first | refine seq_run1 (stp_load1 tyS3 rfl rfl) rfl ?_ | refine seq_run0 (stp_loadE1 tyS3 rfl (by first | assumption | rfl) rfl) ?_ | refine seq_run1 (stp_loadR1 tyS3 rfl (by first | rfl | omega | simp) (by first | assumption | exact List.getElem?_set_self (by simp; omega)) rfl) rfl ?_
    refine seq_run0 (stp_mul rfl rfl (by omega)) ?_
    first | refine seq_run0 (stp_move (.dat _) rfl) ?_ | refine seq_run0 (stp_move (.ptr _ _) rfl) ?_ | refine seq_run0 (stp_move (.row _ _) rfl) ?_ | refine seq_run0 (stp_move (.rptr _ _ _ _ _) rfl) ?_ | refine seq_run0 (stp_move (.mp _) rfl) ?_
    refine seq_run0 (stp_call (k_gatemake_Below _ _ (by first | exact wrap_in _ | assumption | omega) (by omega)) ⟨.inl rfl, .inl rfl, trivial⟩) ?_
    first | refine seq_run0 (stp_assign (.dat _) rfl) ?_ | refine seq_run0 (stp_assign (.ptr _ _) rfl) ?_ | refine seq_run0 (stp_assign (.row _ _) rfl) ?_ | refine seq_run0 (stp_assign (.rptr _ _ _ _ _) rfl) ?_ | refine seq_run0 (stp_assign (.mp _) rfl) ?_
    refine awp_ret ?_
    exact ⟨trivial, ⟨.inl (congrArg vint (nxR_nil h1)), trivial⟩, rfl⟩
  · -- no
    try simp at h1
    have hpos : 0 < ((ints L).length : Int) := by
      rcases Nat.eq_zero_or_pos L.length with h | h
      · exact absurd (List.eq_nil_of_length_eq_zero h) h1
      · omega
    have hm0 : 0 ≤ (a + 1 - 1) % ((ints L).length : Int) := Int.emod_nonneg _ (by omega)
    have hm1 : (a + 1 - 1) % ((ints L).length : Int) < ((ints L).length : Int) := Int.emod_lt_of_pos _ hpos
    have hq0 : 0 ≤ (a + 1 - 1) / ((ints L).length : Int) := Int.ediv_nonneg (by omega) (by omega)
    have hq1 : (a + 1 - 1) % ((ints L).length : Int) ≤ a + 1 - 1 := by
      have h8 := Int.emod_add_mul_ediv (a + 1 - 1) ((ints L).length : Int)
      have h9 := Int.mul_nonneg (Int.le_of_lt hpos) hq0
      omega
    have hat : (ints L)[((a + 1 - 1) % ((ints L).length : Int)).toNat]? = some [vint (nth 0 L ((a + 1 - 1) % ((ints L).length : Int)).toNat)] := ints_at (by omega)
    have hrg := hL.rng _ (nth_mem (d := (0 : Int)) (l := L) (k := ((a + 1 - 1) % ((ints L).length : Int)).toNat) (by omega))
    refine awp_skip ?_
    refine awp_seq ?_
    refine awp_draw mixed hN rfl rfl ?_
    first | refine seq_run0 (stp_move (.dat _) rfl) ?_ | refine seq_run0 (stp_move (.ptr _ _) rfl) ?_ | refine seq_run0 (stp_move (.row _ _) rfl) ?_ | refine seq_run0 (stp_move (.rptr _ _ _ _ _) rfl) ?_ | refine seq_run0 (stp_move (.mp _) rfl) ?_
    first | refine seq_run0 (stp_nilP rfl) ?_ | refine seq_run0 (stp_nilE rfl) ?_ | refine seq_run0 (stp_nilR rfl) ?_
    first | refine seq_run0 (stp_fldP tyF25_1 rfl) ?_ | refine seq_run0 (stp_fldE tyF25_1 rfl) ?_ | refine seq_run0 (stp_fldR tyF25_1 rfl) ?_
    first | refine seq_run1 (stp_load1 tyS3 rfl rfl) rfl ?_ | refine seq_run0 (stp_loadE1 tyS3 rfl (by first | assumption | rfl) rfl) ?_ | refine seq_run1 (stp_loadR1 tyS3 rfl (by first | rfl | omega | simp) (by first | assumption | exact List.getElem?_set_self (by simp; omega)) rfl) rfl ?_
    refine seq_run0 (stp_sub rfl rfl (by omega)) ?_
    first | refine seq_run0 (stp_move (.dat _) rfl) ?_ | refine seq_run0 (stp_move (.ptr _ _) rfl) ?_ | refine seq_run0 (stp_move (.row _ _) rfl) ?_ | refine seq_run0 (stp_move (.rptr _ _ _ _ _) rfl) ?_ | refine seq_run0 (stp_move (.mp _) rfl) ?_
    first | refine seq_run0 (stp_nilP rfl) ?_ | refine seq_run0 (stp_nilE rfl) ?_ | refine seq_run0 (stp_nilR rfl) ?_
    first | refine seq_run0 (stp_fldP tyF25_0 rfl) ?_ | refine seq_run0 (stp_fldE tyF25_0 rfl) ?_ | refine seq_run0 (stp_fldR tyF25_0 rfl) ?_
    first | refine seq_run1 (stp_load1 tyS22 rfl rfl) rfl ?_ | refine seq_run0 (stp_loadE1 tyS22 rfl (by first | assumption | rfl) rfl) ?_ | refine seq_run1 (stp_loadR1 tyS22 rfl (by first | rfl | omega | simp) (by first | assumption | exact List.getElem?_set_self (by simp; omega)) rfl) rfl ?_
    first | refine seq_run0 (stp_len_lst tyU22 rfl) ?_ | refine seq_run1 (stp_len_row tyU22 rfl rfl) rfl ?_ | refine seq_run0 (stp_len_nil tyU22 rfl) ?_
    first | refine seq_run0 (stp_rem rfl rfl (by omega) (by omega)) ?_ | refine seq_run0 (stp_remT rfl rfl (by omega)) ?_
    first | refine seq_run0 (stp_assign (.dat _) rfl) ?_ | refine seq_run0 (stp_assign (.ptr _ _) rfl) ?_ | refine seq_run0 (stp_assign (.row _ _) rfl) ?_ | refine seq_run0 (stp_assign (.rptr _ _ _ _ _) rfl) ?_ | refine seq_run0 (stp_assign (.mp _) rfl) ?_
    refine ⟨rfl, ?_⟩
    refine awp_seq ?_
    refine awp_draw mixed hN rfl rfl ?_
    first | refine seq_run0 (stp_move (.dat _) rfl) ?_ | refine seq_run0 (stp_move (.ptr _ _) rfl) ?_ | refine seq_run0 (stp_move (.row _ _) rfl) ?_ | refine seq_run0 (stp_move (.rptr _ _ _ _ _) rfl) ?_ | refine seq_run0 (stp_move (.mp _) rfl) ?_
    first | refine seq_run0 (stp_nilP rfl) ?_ | refine seq_run0 (stp_nilE rfl) ?_ | refine seq_run0 (stp_nilR rfl) ?_
    first | refine seq_run0 (stp_fldP tyF25_1 rfl) ?_ | refine seq_run0 (stp_fldE tyF25_1 rfl) ?_ | refine seq_run0 (stp_fldR tyF25_1 rfl) ?_
    first | refine seq_run1 (stp_load1 tyS3 rfl rfl) rfl ?_ | refine seq_run0 (stp_loadE1 tyS3 rfl (by first | assumption | rfl) rfl) ?_ | refine seq_run1 (stp_loadR1 tyS3 rfl (by first | rfl | omega | simp) (by first | assumption | exact List.getElem?_set_self (by simp; omega)) rfl) rfl ?_
    refine seq_run0 (stp_sub rfl rfl (by omega)) ?_
    first | refine seq_run0 (stp_move (.dat _) rfl) ?_ | refine seq_run0 (stp_move (.ptr _ _) rfl) ?_ | refine seq_run0 (stp_move (.row _ _) rfl) ?_ | refine seq_run0 (stp_move (.rptr _ _ _ _ _) rfl) ?_ | refine seq_run0 (stp_move (.mp _) rfl) ?_
    first | refine seq_run0 (stp_nilP rfl) ?_ | refine seq_run0 (stp_nilE rfl) ?_ | refine seq_run0 (stp_nilR rfl) ?_
    first | refine seq_run0 (stp_fldP tyF25_0 rfl) ?_ | refine seq_run0 (stp_fldE tyF25_0 rfl) ?_ | refine seq_run0 (stp_fldR tyF25_0 rfl) ?_
    first | refine seq_run1 (stp_load1 tyS22 rfl rfl) rfl ?_ | refine seq_run0 (stp_loadE1 tyS22 rfl (by first | assumption | rfl) rfl) ?_ | refine seq_run1 (stp_loadR1 tyS22 rfl (by first | rfl | omega | simp) (by first | assumption | exact List.getElem?_set_self (by simp; omega)) rfl) rfl ?_
    first | refine seq_run0 (stp_len_lst tyU22 rfl) ?_ | refine seq_run1 (stp_len_row tyU22 rfl rfl) rfl ?_ | refine seq_run0 (stp_len_nil tyU22 rfl) ?_
    refine seq_run0 (stp_quo rfl rfl (by omega) (by omega)) ?_
    first | refine seq_run0 (stp_assign (.dat _) rfl) ?_ | refine seq_run0 (stp_assign (.ptr _ _) rfl) ?_ | refine seq_run0 (stp_assign (.row _ _) rfl) ?_ | refine seq_run0 (stp_assign (.rptr _ _ _ _ _) rfl) ?_ | refine seq_run0 (stp_assign (.mp _) rfl) ?_
    refine ⟨rfl, ?_⟩
    refine awp_seq ?_
    refine awp_plain hN rfl ?_
    first | refine seq_run0 (stp_move (.dat _) rfl) ?_ | refine seq_run0 (stp_move (.ptr _ _) rfl) ?_ | refine seq_run0 (stp_move (.row _ _) rfl) ?_ | refine seq_run0 (stp_move (.rptr _ _ _ _ _) rfl) ?_ | refine seq_run0 (stp_move (.mp _) rfl) ?_
    first | refine seq_run0 (stp_nilP rfl) ?_ | refine seq_run0 (stp_nilE rfl) ?_ | refine seq_run0 (stp_nilR rfl) ?_
    first | refine seq_run0 (stp_fldP tyF25_0 rfl) ?_ | refine seq_run0 (stp_fldE tyF25_0 rfl) ?_ | refine seq_run0 (stp_fldR tyF25_0 rfl) ?_
    first | refine seq_run1 (stp_load1 tyS22 rfl rfl) rfl ?_ | refine seq_run0 (stp_loadE1 tyS22 rfl (by first | assumption | rfl) rfl) ?_ | refine seq_run1 (stp_loadR1 tyS22 rfl (by first | rfl | omega | simp) (by first | assumption | exact List.getElem?_set_self (by simp; omega)) rfl) rfl ?_
    first | refine seq_run0 (stp_move (.dat _) rfl) ?_ | refine seq_run0 (stp_move (.ptr _ _) rfl) ?_ | refine seq_run0 (stp_move (.row _ _) rfl) ?_ | refine seq_run0 (stp_move (.rptr _ _ _ _ _) rfl) ?_ | refine seq_run0 (stp_move (.mp _) rfl) ?_
    first | refine seq_run0 (stp_idxE tyE22 rfl rfl (by omega) (by assumption)) ?_ | refine seq_run0 (stp_idxI tyE22 rfl rfl (by omega) (by assumption)) ?_ | refine seq_run1 (stp_idxR tyE22 rfl rfl (by first | rfl | omega | simp) (by first | omega | (simp; omega))) rfl ?_ | refine seq_run1 (stp_idxRI tyE22 rfl rfl (by first | rfl | omega | simp) (by first | omega | (simp; omega))) rfl ?_
    first | refine seq_run1 (stp_load1 tyS3 rfl rfl) rfl ?_ | refine seq_run0 (stp_loadE1 tyS3 rfl (by first | assumption | rfl) rfl) ?_ | refine seq_run1 (stp_loadR1 tyS3 rfl (by first | rfl | omega | simp) (by first | assumption | exact List.getElem?_set_self (by simp; omega)) rfl) rfl ?_
    refine seq_run0 (stp_call (k_gatemake_Below _ _ (by first | exact wrap_in _ | assumption | omega) (by omega)) ⟨.inl rfl, .inl rfl, trivial⟩) ?_
    first | refine seq_run0 (stp_move (.dat _) rfl) ?_ | refine seq_run0 (stp_move (.ptr _ _) rfl) ?_ | refine seq_run0 (stp_move (.row _ _) rfl) ?_ | refine seq_run0 (stp_move (.rptr _ _ _ _ _) rfl) ?_ | refine seq_run0 (stp_move (.mp _) rfl) ?_
    first | refine seq_run0 (stp_move (.dat _) rfl) ?_ | refine seq_run0 (stp_move (.ptr _ _) rfl) ?_ | refine seq_run0 (stp_move (.row _ _) rfl) ?_ | refine seq_run0 (stp_move (.rptr _ _ _ _ _) rfl) ?_ | refine seq_run0 (stp_move (.mp _) rfl) ?_
    refine seq_run0 (stp_add rfl rfl (by omega)) ?_
    refine seq_run0 (stp_wrap _ rfl rfl (.inr (.inr ⟨rfl, rfl⟩))) ?_
    refine seq_run0 (stp_wrap _ rfl rfl (.inl ⟨rfl, rfl⟩)) ?_
    first | refine seq_run0 (stp_move (.dat _) rfl) ?_ | refine seq_run0 (stp_move (.ptr _ _) rfl) ?_ | refine seq_run0 (stp_move (.row _ _) rfl) ?_ | refine seq_run0 (stp_move (.rptr _ _ _ _ _) rfl) ?_ | refine seq_run0 (stp_move (.mp _) rfl) ?_
    refine seq_run0 (stp_call (k_gatemake_Below _ _ (by first | exact wrap_in _ | assumption | omega) (by omega)) ⟨.inl rfl, .inl rfl, trivial⟩) ?_
    first | refine seq_run0 (stp_assign (.dat _) rfl) ?_ | refine seq_run0 (stp_assign (.ptr _ _) rfl) ?_ | refine seq_run0 (stp_assign (.row _ _) rfl) ?_ | refine seq_run0 (stp_assign (.rptr _ _ _ _ _) rfl) ?_ | refine seq_run0 (stp_assign (.mp _) rfl) ?_
    refine awp_ret ?_
    exact ⟨trivial, ⟨.inl (congrArg vint (nxR_cons (by omega))), trivial⟩, rfl⟩
/-- Next: some number below n -/
theorem g_next {L : List Int} (hL : ArgL L) {a : Int} (n : Int) (ha0 : 0 ≤ a) (ha1 : a ≤ 1000000000) (h1 : 1 ≤ n) (h2 : n ≤ 9223372036854775807) : ∃ r, 0 ≤ r ∧ r < n ∧ GI L 16 [vint n] (vint r) a (a + 1) := by
  refine ⟨nxR L a n, ?_, ?_, k_next L hL a n ha0 ha1 h2⟩
  · unfold nxR; split <;> exact (blw_rng h1).1
  · unfold nxR; split <;> exact (blw_rng h1).2
theorem w_flip {L : List Int} {a a' : Int} (n r : Int) (i1 : GI L 16 [vint n] (vint r) a a')  : Imp Try.prog 15 25 (St L a) [vint n] (resOf [vbool (decide (r = 0))]) (St L a') := by
  refine imp_of (us := [vbool (decide (r = 0))]) (cs' := (St L a')) (by kernel_rfl) Try.func15 rfl rfl rfl rfl fun X bl hN => ?_
  refine awp_seq ?_
  refine awp_plain hN rfl ?_
  refine seq_run0 (stp_assign (.dat _) rfl) ?_
  refine awp_seq ?_
  refine awp_plain hN rfl ?_
  first | refine seq_run0 (stp_move (.dat _) rfl) ?_ | refine seq_run0 (stp_move (.ptr _ _) rfl) ?_ | refine seq_run0 (stp_move (.row _ _) rfl) ?_ | refine seq_run0 (stp_move (.rptr _ _ _ _ _) rfl) ?_ | refine seq_run0 (stp_move (.mp _) rfl) ?_
  first | refine seq_run0 (stp_move (.dat _) rfl) ?_ | refine seq_run0 (stp_move (.ptr _ _) rfl) ?_ | refine seq_run0 (stp_move (.row _ _) rfl) ?_ | refine seq_run0 (stp_move (.rptr _ _ _ _ _) rfl) ?_ | refine seq_run0 (stp_move (.mp _) rfl) ?_
  refine seq_run2 (stp_imp (i1) rfl ⟨.inl rfl, trivial⟩ rfl) rfl ?_
  refine seq_run0 (stp_eql rfl rfl) ?_
  first | refine seq_run0 (stp_assign (.dat _) rfl) ?_ | refine seq_run0 (stp_assign (.ptr _ _) rfl) ?_ | refine seq_run0 (stp_assign (.row _ _) rfl) ?_ | refine seq_run0 (stp_assign (.rptr _ _ _ _ _) rfl) ?_ | refine seq_run0 (stp_assign (.mp _) rfl) ?_
  refine awp_ret ?_
  exact ⟨trivial, ⟨.inl rfl, trivial⟩, rfl⟩
theorem w_range {L : List Int} {a a' : Int} (lo hi r : Int) (hb : -2305843009213693952 ≤ lo ∧ lo ≤ hi ∧ hi ≤ 2305843009213693952) (hr : 0 ≤ r ∧ r < hi - lo + 1) (i1 : GI L 16 [vint (hi - lo + 1)] (vint r) a a')  : Imp Try.prog 13 25 (St L a) [vint lo, vint hi] (resOf [vint (lo + r)]) (St L a') := by
  refine imp_of (us := [vint (lo + r)]) (cs' := (St L a')) (by kernel_rfl) Try.func13 rfl rfl rfl rfl fun X bl hN => ?_
  refine awp_seq ?_
  refine awp_plain hN rfl ?_
  refine seq_run0 (stp_assign (.dat _) rfl) ?_
  refine awp_seq ?_
  refine awp_seq ?_
  refine awp_plain hN rfl ?_
  first | refine seq_run0 (stp_move (.dat _) rfl) ?_ | refine seq_run0 (stp_move (.ptr _ _) rfl) ?_ | refine seq_run0 (stp_move (.row _ _) rfl) ?_ | refine seq_run0 (stp_move (.rptr _ _ _ _ _) rfl) ?_ | refine seq_run0 (stp_move (.mp _) rfl) ?_
  first | refine seq_run0 (stp_move (.dat _) rfl) ?_ | refine seq_run0 (stp_move (.ptr _ _) rfl) ?_ | refine seq_run0 (stp_move (.row _ _) rfl) ?_ | refine seq_run0 (stp_move (.rptr _ _ _ _ _) rfl) ?_ | refine seq_run0 (stp_move (.mp _) rfl) ?_
  refine seq_run0 (stp_lss rfl rfl) ?_
  refine awp_cond _ rfl (fun h1 => ?_) (fun h1 => ?_)
  · -- yes
    exfalso
    simp at h1
    omega
  · -- no
    try simp at h1
    refine awp_skip ?_
    refine awp_seq ?_
    refine awp_plain hN rfl ?_
    first | refine seq_run0 (stp_move (.dat _) rfl) ?_ | refine seq_run0 (stp_move (.ptr _ _) rfl) ?_ | refine seq_run0 (stp_move (.row _ _) rfl) ?_ | refine seq_run0 (stp_move (.rptr _ _ _ _ _) rfl) ?_ | refine seq_run0 (stp_move (.mp _) rfl) ?_
    first | refine seq_run0 (stp_move (.dat _) rfl) ?_ | refine seq_run0 (stp_move (.ptr _ _) rfl) ?_ | refine seq_run0 (stp_move (.row _ _) rfl) ?_ | refine seq_run0 (stp_move (.rptr _ _ _ _ _) rfl) ?_ | refine seq_run0 (stp_move (.mp _) rfl) ?_
    first | refine seq_run0 (stp_move (.dat _) rfl) ?_ | refine seq_run0 (stp_move (.ptr _ _) rfl) ?_ | refine seq_run0 (stp_move (.row _ _) rfl) ?_ | refine seq_run0 (stp_move (.rptr _ _ _ _ _) rfl) ?_ | refine seq_run0 (stp_move (.mp _) rfl) ?_
    first | refine seq_run0 (stp_move (.dat _) rfl) ?_ | refine seq_run0 (stp_move (.ptr _ _) rfl) ?_ | refine seq_run0 (stp_move (.row _ _) rfl) ?_ | refine seq_run0 (stp_move (.rptr _ _ _ _ _) rfl) ?_ | refine seq_run0 (stp_move (.mp _) rfl) ?_
    refine seq_run0 (stp_sub rfl rfl (by omega)) ?_
    refine seq_run0 (stp_add rfl rfl (by omega)) ?_
    refine seq_run2 (stp_imp (i1) rfl ⟨.inl rfl, trivial⟩ rfl) rfl ?_
    refine seq_run0 (stp_add rfl rfl (by omega)) ?_
    first | refine seq_run0 (stp_assign (.dat _) rfl) ?_ | refine seq_run0 (stp_assign (.ptr _ _) rfl) ?_ | refine seq_run0 (stp_assign (.row _ _) rfl) ?_ | refine seq_run0 (stp_assign (.rptr _ _ _ _ _) rfl) ?_ | refine seq_run0 (stp_assign (.mp _) rfl) ?_
    refine awp_ret ?_
    exact ⟨trivial, ⟨.inl rfl, trivial⟩, rfl⟩
theorem w_pick {L : List Int} {a a' : Int} (l : List Int) (r : Int) (hr : 0 ≤ r ∧ r < l.length) (i1 : GI L 16 [vint ((ints l).length : Int)] (vint r) a a')  : Imp Try.prog 14 25 (St L a) [vlst (ints l)] (resOf [vint (nth 0 l r.toNat)]) (St L a') := by
  have hle := ints_len l
  have hln : (ints l).length = l.length := by simp
  have hat := ints_at (l := l) (k := r.toNat) (by omega)
  refine imp_of (us := [vint (nth 0 l r.toNat)]) (cs' := (St L a')) (by kernel_rfl) Try.func14 rfl rfl rfl rfl fun X bl hN => ?_
  refine awp_seq ?_
  refine awp_plain hN rfl ?_
  refine seq_run0 (stp_assign (.dat _) rfl) ?_
  refine awp_seq ?_
  refine awp_plain hN rfl ?_
  first | refine seq_run0 (stp_move (.dat _) rfl) ?_ | refine seq_run0 (stp_move (.ptr _ _) rfl) ?_ | refine seq_run0 (stp_move (.row _ _) rfl) ?_ | refine seq_run0 (stp_move (.rptr _ _ _ _ _) rfl) ?_ | refine seq_run0 (stp_move (.mp _) rfl) ?_
  first | refine seq_run0 (stp_move (.dat _) rfl) ?_ | refine seq_run0 (stp_move (.ptr _ _) rfl) ?_ | refine seq_run0 (stp_move (.row _ _) rfl) ?_ | refine seq_run0 (stp_move (.rptr _ _ _ _ _) rfl) ?_ | refine seq_run0 (stp_move (.mp _) rfl) ?_
  first | refine seq_run0 (stp_move (.dat _) rfl) ?_ | refine seq_run0 (stp_move (.ptr _ _) rfl) ?_ | refine seq_run0 (stp_move (.row _ _) rfl) ?_ | refine seq_run0 (stp_move (.rptr _ _ _ _ _) rfl) ?_ | refine seq_run0 (stp_move (.mp _) rfl) ?_
  first | refine seq_run0 (stp_len_lst tyU22 rfl) ?_ | refine seq_run1 (stp_len_row tyU22 rfl rfl) rfl ?_ | refine seq_run0 (stp_len_nil tyU22 rfl) ?_
  refine seq_run2 (stp_imp (i1) rfl ⟨.inl rfl, trivial⟩ rfl) rfl ?_
  first | refine seq_run0 (stp_idxE tyE22 rfl rfl (by omega) (by assumption)) ?_ | refine seq_run0 (stp_idxI tyE22 rfl rfl (by omega) (by assumption)) ?_ | refine seq_run1 (stp_idxR tyE22 rfl rfl (by first | rfl | omega | simp) (by first | omega | (simp; omega))) rfl ?_ | refine seq_run1 (stp_idxRI tyE22 rfl rfl (by first | rfl | omega | simp) (by first | omega | (simp; omega))) rfl ?_
  first | refine seq_run1 (stp_load1 tyS3 rfl rfl) rfl ?_ | refine seq_run0 (stp_loadE1 tyS3 rfl (by first | assumption | rfl) rfl) ?_ | refine seq_run1 (stp_loadR1 tyS3 rfl (by first | rfl | omega | simp) (by first | assumption | exact List.getElem?_set_self (by simp; omega)) rfl) rfl ?_
  first | refine seq_run0 (stp_assign (.dat _) rfl) ?_ | refine seq_run0 (stp_assign (.ptr _ _) rfl) ?_ | refine seq_run0 (stp_assign (.row _ _) rfl) ?_ | refine seq_run0 (stp_assign (.rptr _ _ _ _ _) rfl) ?_ | refine seq_run0 (stp_assign (.mp _) rfl) ?_
  refine awp_ret ?_
  exact ⟨trivial, ⟨.inl rfl, trivial⟩, rfl⟩
abbrev strs (l : List (List UInt8)) : List (List V) := l.map fun s => [vstr s]
theorem strs_len (l : List (List UInt8)) : ∀ el, el ∈ strs l → el.length = 1 := by
  intro el h; obtain ⟨p, _, rfl⟩ := List.mem_map.1 h; rfl
theorem strs_at {l : List (List UInt8)} {k : Nat} (h : k < l.length) : (strs l)[k]? = some [vstr (nth [] l k)] := by
  rw [List.getElem?_map, nth_at (d := []) h]; rfl
theorem w_some {L : List Int} {a a' : Int} (l : List (List UInt8)) (r : Int) (hr : 0 ≤ r ∧ r < l.length) (i1 : GI L 16 [vint ((strs l).length : Int)] (vint r) a a')  : Imp Try.prog 69 25 (St L a) [vlst (strs l)] (resOf [vstr (nth [] l r.toNat)]) (St L a') := by
  have hle := strs_len l
  have hln : (strs l).length = l.length := by simp
  have hat := strs_at (l := l) (k := r.toNat) (by omega)
  refine imp_of (us := [vstr (nth [] l r.toNat)]) (cs' := (St L a')) (by kernel_rfl) Try.func69 rfl rfl rfl rfl fun X bl hN => ?_
  refine awp_seq ?_
  refine awp_plain hN rfl ?_
  refine seq_run0 (stp_assign (.dat _) rfl) ?_
  refine awp_seq ?_
  refine awp_plain hN rfl ?_
  first | refine seq_run0 (stp_move (.dat _) rfl) ?_ | refine seq_run0 (stp_move (.ptr _ _) rfl) ?_ | refine seq_run0 (stp_move (.row _ _) rfl) ?_ | refine seq_run0 (stp_move (.rptr _ _ _ _ _) rfl) ?_ | refine seq_run0 (stp_move (.mp _) rfl) ?_
  first | refine seq_run0 (stp_move (.dat _) rfl) ?_ | refine seq_run0 (stp_move (.ptr _ _) rfl) ?_ | refine seq_run0 (stp_move (.row _ _) rfl) ?_ | refine seq_run0 (stp_move (.rptr _ _ _ _ _) rfl) ?_ | refine seq_run0 (stp_move (.mp _) rfl) ?_
  first | refine seq_run0 (stp_move (.dat _) rfl) ?_ | refine seq_run0 (stp_move (.ptr _ _) rfl) ?_ | refine seq_run0 (stp_move (.row _ _) rfl) ?_ | refine seq_run0 (stp_move (.rptr _ _ _ _ _) rfl) ?_ | refine seq_run0 (stp_move (.mp _) rfl) ?_
  first | refine seq_run0 (stp_len_lst tyU73 rfl) ?_ | refine seq_run1 (stp_len_row tyU73 rfl rfl) rfl ?_ | refine seq_run0 (stp_len_nil tyU73 rfl) ?_
  refine seq_run2 (stp_imp (i1) rfl ⟨.inl rfl, trivial⟩ rfl) rfl ?_
  first | refine seq_run0 (stp_idxE tyE73 rfl rfl (by omega) (by assumption)) ?_ | refine seq_run0 (stp_idxI tyE73 rfl rfl (by omega) (by assumption)) ?_ | refine seq_run1 (stp_idxR tyE73 rfl rfl (by first | rfl | omega | simp) (by first | omega | (simp; omega))) rfl ?_ | refine seq_run1 (stp_idxRI tyE73 rfl rfl (by first | rfl | omega | simp) (by first | omega | (simp; omega))) rfl ?_
  first | refine seq_run1 (stp_load1 tyS9 rfl rfl) rfl ?_ | refine seq_run0 (stp_loadE1 tyS9 rfl (by first | assumption | rfl) rfl) ?_ | refine seq_run1 (stp_loadR1 tyS9 rfl (by first | rfl | omega | simp) (by first | assumption | exact List.getElem?_set_self (by simp; omega)) rfl) rfl ?_
  first | refine seq_run0 (stp_assign (.dat _) rfl) ?_ | refine seq_run0 (stp_assign (.ptr _ _) rfl) ?_ | refine seq_run0 (stp_assign (.row _ _) rfl) ?_ | refine seq_run0 (stp_assign (.rptr _ _ _ _ _) rfl) ?_ | refine seq_run0 (stp_assign (.mp _) rfl) ?_
  refine awp_ret ?_
  exact ⟨trivial, ⟨.inl rfl, trivial⟩, rfl⟩
theorem g_flip {L : List Int} (hL : ArgL L) {a : Int} (n : Int) (ha0 : 0 ≤ a) (ha1 : a ≤ 1000000000) (h1 : 1 ≤ n) (h2 : n ≤ 9223372036854775807) : ∃ b, GI L 15 [vint n] (vbool b) a (a + 1) := by
  obtain ⟨r, _, _, i1⟩ := g_next hL n ha0 ha1 h1 h2
  exact ⟨_, w_flip n r i1⟩
theorem g_range {L : List Int} (hL : ArgL L) {a : Int} (lo hi : Int) (ha0 : 0 ≤ a) (ha1 : a ≤ 1000000000) (hb : -2305843009213693952 ≤ lo ∧ lo ≤ hi ∧ hi ≤ 2305843009213693952) : ∃ r, lo ≤ r ∧ r ≤ hi ∧ GI L 13 [vint lo, vint hi] (vint r) a (a + 1) := by
  obtain ⟨r, q1, q2, i1⟩ := g_next hL (hi - lo + 1) ha0 ha1 (by omega) (by omega)
  exact ⟨lo + r, by omega, by omega, w_range lo hi r hb ⟨q1, q2⟩ i1⟩
theorem g_pick {L : List Int} (hL : ArgL L) {a : Int} (l : List Int) (ha0 : 0 ≤ a) (ha1 : a ≤ 1000000000) (h1 : l ≠ []) (h2 : l.length ≤ 1000) : ∃ r, r ∈ l ∧ GI L 14 [vlst (ints l)] (vint r) a (a + 1) := by
  have hp : 0 < l.length := by cases l with | nil => exact absurd rfl h1 | cons _ _ => simp
  have hln : (ints l).length = l.length := by simp
  obtain ⟨r, q1, q2, i1⟩ := g_next hL ((ints l).length : Int) ha0 ha1 (by omega) (by omega)
  exact ⟨_, nth_mem (by omega), w_pick l r ⟨q1, by omega⟩ i1⟩
theorem g_some {L : List Int} (hL : ArgL L) {a : Int} (l : List (List UInt8)) (ha0 : 0 ≤ a) (ha1 : a ≤ 1000000000) (h1 : l ≠ []) (h2 : l.length ≤ 1000) : ∃ r, r ∈ l ∧ GI L 69 [vlst (strs l)] (vstr r) a (a + 1) := by
  have hp : 0 < l.length := by cases l with | nil => exact absurd rfl h1 | cons _ _ => simp
  have hln : (strs l).length = l.length := by simp
  obtain ⟨r, q1, q2, i1⟩ := g_next hL ((strs l).length : Int) ha0 ha1 (by omega) (by omega)
  exact ⟨_, nth_mem (by omega), w_some l r ⟨q1, by omega⟩ i1⟩
end Go.Proofs.Ytmcegaabopcmfaa
