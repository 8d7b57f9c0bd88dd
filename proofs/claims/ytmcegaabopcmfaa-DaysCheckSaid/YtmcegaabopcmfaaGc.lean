/- Calls: what the stream makes. -/
import Derived.Test.YtmcegaabopcmfaaGs
import Derived.Test.YtmcegaabopcmfaaCa
namespace Go.Proofs.Ytmcegaabopcmfaa
open Go.RowKit
set_option linter.unusedVariables false
set_option maxRecDepth 20000

structure RCs where
  xs : List Inst
  at_ : Int
  a : Int
def cky (k : Nat) : List UInt8 := [99] ++ encL (IntKind.i32.wrap (97 + (k : Int)))
theorem cky_len : ∀ k : Nat, k < 20 → (encL (IntKind.i32.wrap (97 + (k : Int)))).length ≤ 4 := by decide
def CStep (L : List Int) (k : Nat) (s s' : RCs) : Prop :=
  ∃ d, GI L 14 [vlst (ints [0, 0, 1, 5, 10, 40])] (vint d) s.a s'.a ∧ s'.at_ = s.at_ + d ∧ s'.xs = s.xs ++ [(cky k, s.at_ + d)]
def CInv (a : Int) (k : Nat) (s : RCs) : Prop := s.a = a + k ∧ s.xs.length = k ∧ 0 ≤ s.at_ ∧ s.at_ ≤ 40 * k ∧ ∀ p, p ∈ s.xs → p.1.length ≤ 10 ∧ 0 ≤ p.2 ∧ p.2 ≤ 1000
theorem cstep {L : List Int} (hL : ArgL L) {a : Int} (ha0 : 0 ≤ a) (ha1 : a ≤ 999999000) (k : Nat) (hk : k < 20) (s : RCs) (hI : CInv a k s) : ∃ s', CStep L k s s' ∧ CInv a (k + 1) s' := by
  obtain ⟨i1, i2, i3, i4, i5⟩ := hI
  obtain ⟨d, q1, q2⟩ := g_pick hL (a := s.a) [0, 0, 1, 5, 10, 40] (by omega) (by omega) (by simp) (by simp)
  simp at q1
  have := cky_len k hk
  refine ⟨⟨s.xs ++ [(cky k, s.at_ + d)], s.at_ + d, s.a + 1⟩, ⟨d, q2, rfl, rfl⟩, by simp only; omega, by simp; omega, by simp only; omega, by simp only; omega, fun p hp => ?_⟩
  rcases List.mem_append.1 hp with hp | hp
  · exact i5 p hp
  · have : p = (cky k, s.at_ + d) := by simpa using hp
    subst this; exact ⟨by simp [cky]; omega, by simp only; omega, by simp only; omega⟩
theorem w_rightCalls {L : List Int} {a a0 : Int} (n : Int) (c : Nat) (hc : c ≤ 20) (t : Nat → RCs) (iA : GI L 13 [vint 0, vint n] (vint (c : Int)) a a0) (ht0 : t 0 = ⟨[], 0, a0⟩) (hS : ∀ k, k < c → CStep L k (t k) (t (k + 1))) (hInv : ∀ k, k ≤ c → CInv a0 k (t k))  : ImpR Try.prog 87 25 (St L a) [vint n] 120 2 ((t c).xs.map instE) (St L (t c).a) := by
  refine impR_of (cs' := (St L (t c).a)) (es := ((t c).xs.map instE)) (by kernel_rfl) Try.func87 rfl rfl rfl rfl fun X bl hN => ?_
  refine awp_seq ?_
  refine awp_plain hN rfl ?_
  refine seq_run0 (stp_assign (.dat _) rfl) ?_
  refine awp_seq ?_
  refine awp_plain hN rfl ?_
  refine seq_run0 (stp_assign (.dat _) rfl) ?_
  refine awp_seq ?_
  refine awp_plain hN rfl ?_
  refine seq_run0 (stp_assign (.dat _) rfl) ?_
  refine awp_seq ?_
  refine awp_seq ?_
  refine awp_plain hN rfl ?_
  first | refine seq_run0 (stp_move (.dat _) rfl) ?_ | refine seq_run0 (stp_move (.ptr _ _) rfl) ?_ | refine seq_run0 (stp_move (.row _ _) rfl) ?_ | refine seq_run0 (stp_move (.rptr _ _ _ _ _) rfl) ?_ | refine seq_run0 (stp_move (.mp _) rfl) ?_
  first | refine seq_run0 (stp_move (.dat _) rfl) ?_ | refine seq_run0 (stp_move (.ptr _ _) rfl) ?_ | refine seq_run0 (stp_move (.row _ _) rfl) ?_ | refine seq_run0 (stp_move (.rptr _ _ _ _ _) rfl) ?_ | refine seq_run0 (stp_move (.mp _) rfl) ?_
  refine seq_run2 (stp_imp (iA) rfl ⟨.inl rfl, .inl rfl, trivial⟩ rfl) rfl ?_
  refine seq_run0 (stp_move (.dat _) rfl) ?_
  refine awp_block ?_
  refine awp_nilrow 5 9 120 2 rfl rfl rfl ?_
  refine awp_loop (fun k : Nat => [(0, .ptr 0 0), (5, .row 9 ((t k).xs.map instE).length), (6, .dat (vint (t k).at_)), (10, .dat (vint (c : Int))), (11, .dat (vint (k : Int)))]) (fun k : Nat => [(0, .box (some bl) 25 ((St L (t k).a).map .dat)), (9, .row 120 2 ((t k).xs.map instE))]) (fun k : Nat => k ≤ c) (fun k : Nat => c - k) 0 (by omega) ⟨rfl, by rw [ht0]; rfl, by rw [ht0]; rfl, rfl, rfl, trivial⟩ ⟨by rw [ht0]; rfl, by rw [ht0]; rfl, trivial⟩ (fun _ => rfl) (fun k hI => ?_)
  refine awp_seq ?_
  refine awp_plain hN rfl ?_
  refine seq_run0 (stp_lss rfl rfl) ?_
  refine awp_seq ?_
  refine awp_cond _ rfl (fun h1 => ?_) (fun h1 => ?_)
  · -- yes
    try simp at h1
    have hk : k < c := by omega
    obtain ⟨d, iP, hs1, hs2⟩ := hS k hk
    obtain ⟨v1, v2, v3, v4, v5⟩ := hInv k (by omega)
    obtain ⟨u1, u2, u3, u4, u5⟩ := hInv (k + 1) hk
    have hcl := cky_len k (by omega)
    have hlen : (t k).xs.length ≤ 20 := by omega
    have h99 : ([99] : List UInt8).length = 1 := rfl
    refine awp_skip ?_
    refine awp_seq ?_
    refine awp_block ?_
    refine awp_seq ?_
    refine awp_plain hN rfl ?_
    first | refine seq_run0 (stp_move (.dat _) rfl) ?_ | refine seq_run0 (stp_move (.ptr _ _) rfl) ?_ | refine seq_run0 (stp_move (.row _ _) rfl) ?_ | refine seq_run0 (stp_move (.rptr _ _ _ _ _) rfl) ?_ | refine seq_run0 (stp_move (.mp _) rfl) ?_
    first | refine seq_run0 (stp_assign (.dat _) rfl) ?_ | refine seq_run0 (stp_assign (.ptr _ _) rfl) ?_ | refine seq_run0 (stp_assign (.row _ _) rfl) ?_ | refine seq_run0 (stp_assign (.rptr _ _ _ _ _) rfl) ?_ | refine seq_run0 (stp_assign (.mp _) rfl) ?_
    refine awp_seq ?_
    refine awp_plain hN rfl ?_
    first | refine seq_run0 (stp_move (.dat _) rfl) ?_ | refine seq_run0 (stp_move (.ptr _ _) rfl) ?_ | refine seq_run0 (stp_move (.row _ _) rfl) ?_ | refine seq_run0 (stp_move (.rptr _ _ _ _ _) rfl) ?_ | refine seq_run0 (stp_move (.mp _) rfl) ?_
    first | refine seq_run0 (stp_move (.dat _) rfl) ?_ | refine seq_run0 (stp_move (.ptr _ _) rfl) ?_ | refine seq_run0 (stp_move (.row _ _) rfl) ?_ | refine seq_run0 (stp_move (.rptr _ _ _ _ _) rfl) ?_ | refine seq_run0 (stp_move (.mp _) rfl) ?_
    refine seq_run0 (stp_lit [[_], [_], [_], [_], [_], [_]] tyL22 ⟨rfl, .inl ⟨_, rfl, rfl, rfl⟩, rfl, rfl, .inl ⟨_, rfl, rfl, rfl⟩, rfl, rfl, .inl ⟨_, rfl, rfl, rfl⟩, rfl, rfl, .inl ⟨_, rfl, rfl, rfl⟩, rfl, rfl, .inl ⟨_, rfl, rfl, rfl⟩, rfl, rfl, .inl ⟨_, rfl, rfl, rfl⟩, rfl, trivial⟩ rfl rfl) ?_
    refine seq_run2 (stp_imp (iP) rfl ⟨.inl rfl, trivial⟩ rfl) rfl ?_
    refine seq_run0 (stp_add rfl rfl (by omega)) ?_
    first | refine seq_run0 (stp_assign (.dat _) rfl) ?_ | refine seq_run0 (stp_assign (.ptr _ _) rfl) ?_ | refine seq_run0 (stp_assign (.row _ _) rfl) ?_ | refine seq_run0 (stp_assign (.rptr _ _ _ _ _) rfl) ?_ | refine seq_run0 (stp_assign (.mp _) rfl) ?_
    refine awp_plain hN rfl ?_
    first | refine seq_run0 (stp_move (.dat _) rfl) ?_ | refine seq_run0 (stp_move (.ptr _ _) rfl) ?_ | refine seq_run0 (stp_move (.row _ _) rfl) ?_ | refine seq_run0 (stp_move (.rptr _ _ _ _ _) rfl) ?_ | refine seq_run0 (stp_move (.mp _) rfl) ?_
    first | refine seq_run0 (stp_move (.dat _) rfl) ?_ | refine seq_run0 (stp_move (.ptr _ _) rfl) ?_ | refine seq_run0 (stp_move (.row _ _) rfl) ?_ | refine seq_run0 (stp_move (.rptr _ _ _ _ _) rfl) ?_ | refine seq_run0 (stp_move (.mp _) rfl) ?_
    refine seq_run0 (stp_add rfl rfl (by omega)) ?_
    refine seq_run0 (stp_conv tyU3 tyU21 rfl) ?_
    refine seq_run0 (stp_convR tyU21 rfl tyU9 rfl) ?_
    refine seq_run0 (stp_sadd rfl rfl (by omega)) ?_
    first | refine seq_run0 (stp_move (.dat _) rfl) ?_ | refine seq_run0 (stp_move (.ptr _ _) rfl) ?_ | refine seq_run0 (stp_move (.row _ _) rfl) ?_ | refine seq_run0 (stp_move (.rptr _ _ _ _ _) rfl) ?_ | refine seq_run0 (stp_move (.mp _) rfl) ?_
    refine seq_run0 (stp_build [(0, [_]), (1, [_])] tyZ120 tyP120 rfl ⟨rfl, .inl ⟨_, rfl, rfl, rfl⟩, rfl, rfl, .inl ⟨_, rfl, rfl, rfl⟩, rfl, trivial⟩) ?_
    refine seq_run0 (stp_lit [_] tyL56 ⟨rfl, .inr rfl, rfl, trivial⟩ rfl rfl) ?_
    first | refine seq_run2 (stp_app tyL56 rfl rfl (by simp) (by first | (intro el h; simp only [List.mem_singleton] at h; subst h; rfl) | assumption | simp) (by simp; omega) (by simp; omega)) rfl ?_ | refine seq_run2 (stp_appN 3 tyL56 rfl rfl (by simp) (by first | (intro el h; simp only [List.mem_singleton] at h; subst h; rfl) | assumption | simp) (by simp) (by simp)) rfl ?_
    first | refine seq_run0 (stp_assign (.dat _) rfl) ?_ | refine seq_run0 (stp_assign (.ptr _ _) rfl) ?_ | refine seq_run0 (stp_assign (.row _ _) rfl) ?_ | refine seq_run0 (stp_assign (.rptr _ _ _ _ _) rfl) ?_ | refine seq_run0 (stp_assign (.mp _) rfl) ?_
    refine awp_plain hN rfl ?_
    refine seq_run0 (stp_add rfl rfl (by omega)) ?_
    first | refine seq_run0 (stp_move (.dat _) rfl) ?_ | refine seq_run0 (stp_move (.ptr _ _) rfl) ?_ | refine seq_run0 (stp_move (.row _ _) rfl) ?_ | refine seq_run0 (stp_move (.rptr _ _ _ _ _) rfl) ?_ | refine seq_run0 (stp_move (.mp _) rfl) ?_
    exact ⟨k + 1, by omega, by omega, ⟨rfl, (by rw [hs2, List.map_append]; rfl), (by rw [hs1]; rfl), rfl, rfl, trivial⟩, ⟨rfl, (by rw [hs2, List.map_append]; rfl), trivial⟩⟩
  · -- no
    try simp at h1
    refine awp_exit ?_
    refine awp_seq ?_
    refine awp_plain hN rfl ?_
    first | refine seq_run0 (stp_move (.dat _) rfl) ?_ | refine seq_run0 (stp_move (.ptr _ _) rfl) ?_ | refine seq_run0 (stp_move (.row _ _) rfl) ?_ | refine seq_run0 (stp_move (.rptr _ _ _ _ _) rfl) ?_ | refine seq_run0 (stp_move (.mp _) rfl) ?_
    first | refine seq_run0 (stp_assign (.dat _) rfl) ?_ | refine seq_run0 (stp_assign (.ptr _ _) rfl) ?_ | refine seq_run0 (stp_assign (.row _ _) rfl) ?_ | refine seq_run0 (stp_assign (.rptr _ _ _ _ _) rfl) ?_ | refine seq_run0 (stp_assign (.mp _) rfl) ?_
    refine awp_ret ?_
    obtain rfl : k = c := by omega
    exact ⟨trivial, ⟨9, rfl, rfl⟩, rfl⟩
theorem w_calls_e {L : List Int} {a a' : Int} (n : Int) (xs : List Inst) (hx : xs = []) (iR : ImpR Try.prog 87 25 (St L a) [vint n] 120 2 (xs.map instE) (St L a'))  : Imp Try.prog 24 25 (St L a) [vint n] (resOf [vlst (xs.map instE)]) (St L a') := by
  have hle := inst_len xs
  have hln : (xs.map instE).length = xs.length := by simp
  have hx0 : xs.length = 0 := by rw [hx]; rfl
  refine imp_of (us := [vlst (xs.map instE)]) (cs' := (St L a')) (by kernel_rfl) Try.func24 rfl rfl rfl rfl fun X bl hN => ?_
  refine awp_seq ?_
  refine awp_plain hN rfl ?_
  refine seq_run0 (stp_assign (.dat _) rfl) ?_
  refine awp_seq ?_
  refine awp_plain hN rfl ?_
  first | refine seq_run0 (stp_move (.dat _) rfl) ?_ | refine seq_run0 (stp_move (.ptr _ _) rfl) ?_ | refine seq_run0 (stp_move (.row _ _) rfl) ?_ | refine seq_run0 (stp_move (.rptr _ _ _ _ _) rfl) ?_ | refine seq_run0 (stp_move (.mp _) rfl) ?_
  first | refine seq_run0 (stp_move (.dat _) rfl) ?_ | refine seq_run0 (stp_move (.ptr _ _) rfl) ?_ | refine seq_run0 (stp_move (.row _ _) rfl) ?_ | refine seq_run0 (stp_move (.rptr _ _ _ _ _) rfl) ?_ | refine seq_run0 (stp_move (.mp _) rfl) ?_
  refine seq_run3 (stp_impR 101 (iR) rfl ⟨.inl rfl, trivial⟩ rfl rfl) rfl rfl ?_
  first | refine seq_run0 (stp_assign (.dat _) rfl) ?_ | refine seq_run0 (stp_assign (.ptr _ _) rfl) ?_ | refine seq_run0 (stp_assign (.row _ _) rfl) ?_ | refine seq_run0 (stp_assign (.rptr _ _ _ _ _) rfl) ?_ | refine seq_run0 (stp_assign (.mp _) rfl) ?_
  refine awp_seq ?_
  refine awp_seq ?_
  refine awp_plain hN rfl ?_
  first | refine seq_run0 (stp_move (.dat _) rfl) ?_ | refine seq_run0 (stp_move (.ptr _ _) rfl) ?_ | refine seq_run0 (stp_move (.row _ _) rfl) ?_ | refine seq_run0 (stp_move (.rptr _ _ _ _ _) rfl) ?_ | refine seq_run0 (stp_move (.mp _) rfl) ?_
  first | refine seq_run0 (stp_len_lst tyU56 rfl) ?_ | refine seq_run1 (stp_len_row tyU56 rfl rfl) rfl ?_ | refine seq_run0 (stp_len_nil tyU56 rfl) ?_
  refine seq_run0 (stp_gtr rfl rfl) ?_
  first | refine seq_run0 (stp_move (.dat _) rfl) ?_ | refine seq_run0 (stp_move (.ptr _ _) rfl) ?_ | refine seq_run0 (stp_move (.row _ _) rfl) ?_ | refine seq_run0 (stp_move (.rptr _ _ _ _ _) rfl) ?_ | refine seq_run0 (stp_move (.mp _) rfl) ?_
  refine seq_split (j := 3) rfl rfl (fun h1 => (by exfalso; simp [hx] at h1)) (fun h1 => ?_) rfl
  have qh1 := h1
  try simp at qh1
  refine seq_skip rfl rfl h1 ?_
  refine seq_skip rfl rfl h1 ?_
  refine seq_run0 (stp_pick_f' rfl h1 rfl) ?_
  refine awp_cond _ rfl (fun h2 => (by exfalso; simp at h2)) (fun h2 => ?_)
  try simp at h2
  refine awp_skip ?_
  refine awp_seq ?_
  refine awp_plain hN rfl ?_
  first | refine seq_run0 (stp_move (.dat _) rfl) ?_ | refine seq_run0 (stp_move (.ptr _ _) rfl) ?_ | refine seq_run0 (stp_move (.row _ _) rfl) ?_ | refine seq_run0 (stp_move (.rptr _ _ _ _ _) rfl) ?_ | refine seq_run0 (stp_move (.mp _) rfl) ?_
  first | refine seq_run0 (stp_assign (.dat _) rfl) ?_ | refine seq_run0 (stp_assign (.ptr _ _) rfl) ?_ | refine seq_run0 (stp_assign (.row _ _) rfl) ?_ | refine seq_run0 (stp_assign (.rptr _ _ _ _ _) rfl) ?_ | refine seq_run0 (stp_assign (.mp _) rfl) ?_
  refine awp_ret ?_
  exact ⟨trivial, ⟨⟨_, _, _, rfl, rfl, rfl⟩, trivial⟩, rfl⟩
theorem w_calls_k {L : List Int} {a a1 a' : Int} (n : Int) (xs : List Inst) (hx : 0 < xs.length ∧ xs.length ≤ 100) (iR : ImpR Try.prog 87 25 (St L a) [vint n] 120 2 (xs.map instE) (St L a1)) (i1 : GI L 15 [vint 12] (vbool false) a1 a')  : Imp Try.prog 24 25 (St L a) [vint n] (resOf [vlst (xs.map instE)]) (St L a') := by
  have hle := inst_len xs
  have hln : (xs.map instE).length = xs.length := by simp
  refine imp_of (us := [vlst (xs.map instE)]) (cs' := (St L a')) (by kernel_rfl) Try.func24 rfl rfl rfl rfl fun X bl hN => ?_
  refine awp_seq ?_
  refine awp_plain hN rfl ?_
  refine seq_run0 (stp_assign (.dat _) rfl) ?_
  refine awp_seq ?_
  refine awp_plain hN rfl ?_
  first | refine seq_run0 (stp_move (.dat _) rfl) ?_ | refine seq_run0 (stp_move (.ptr _ _) rfl) ?_ | refine seq_run0 (stp_move (.row _ _) rfl) ?_ | refine seq_run0 (stp_move (.rptr _ _ _ _ _) rfl) ?_ | refine seq_run0 (stp_move (.mp _) rfl) ?_
  first | refine seq_run0 (stp_move (.dat _) rfl) ?_ | refine seq_run0 (stp_move (.ptr _ _) rfl) ?_ | refine seq_run0 (stp_move (.row _ _) rfl) ?_ | refine seq_run0 (stp_move (.rptr _ _ _ _ _) rfl) ?_ | refine seq_run0 (stp_move (.mp _) rfl) ?_
  refine seq_run3 (stp_impR 101 (iR) rfl ⟨.inl rfl, trivial⟩ rfl rfl) rfl rfl ?_
  first | refine seq_run0 (stp_assign (.dat _) rfl) ?_ | refine seq_run0 (stp_assign (.ptr _ _) rfl) ?_ | refine seq_run0 (stp_assign (.row _ _) rfl) ?_ | refine seq_run0 (stp_assign (.rptr _ _ _ _ _) rfl) ?_ | refine seq_run0 (stp_assign (.mp _) rfl) ?_
  refine awp_seq ?_
  refine awp_seq ?_
  refine awp_plain hN rfl ?_
  first | refine seq_run0 (stp_move (.dat _) rfl) ?_ | refine seq_run0 (stp_move (.ptr _ _) rfl) ?_ | refine seq_run0 (stp_move (.row _ _) rfl) ?_ | refine seq_run0 (stp_move (.rptr _ _ _ _ _) rfl) ?_ | refine seq_run0 (stp_move (.mp _) rfl) ?_
  first | refine seq_run0 (stp_len_lst tyU56 rfl) ?_ | refine seq_run1 (stp_len_row tyU56 rfl rfl) rfl ?_ | refine seq_run0 (stp_len_nil tyU56 rfl) ?_
  refine seq_run0 (stp_gtr rfl rfl) ?_
  first | refine seq_run0 (stp_move (.dat _) rfl) ?_ | refine seq_run0 (stp_move (.ptr _ _) rfl) ?_ | refine seq_run0 (stp_move (.row _ _) rfl) ?_ | refine seq_run0 (stp_move (.rptr _ _ _ _ _) rfl) ?_ | refine seq_run0 (stp_move (.mp _) rfl) ?_
  refine seq_split (j := 3) rfl rfl (fun h1 => ?_) (fun h1 => (by exfalso; simp at h1; rw [h1] at hx; simp at hx)) rfl
  have qh1 := h1
  try simp at qh1
  first | refine seq_g0 rfl rfl h1 (stp_move (.dat _) rfl) ?_ | refine seq_g0 rfl rfl h1 (stp_move (.ptr _ _) rfl) ?_ | refine seq_g0 rfl rfl h1 (stp_move (.row _ _) rfl) ?_ | refine seq_g0 rfl rfl h1 (stp_move (.rptr _ _ _ _ _) rfl) ?_ | refine seq_g0 rfl rfl h1 (stp_move (.mp _) rfl) ?_
  refine seq_g2 rfl rfl h1 (stp_imp (i1) rfl ⟨.inl rfl, trivial⟩ rfl) rfl ?_
  refine seq_run0 (stp_pick_t rfl h1 rfl) ?_
  refine awp_cond _ rfl (fun h2 => (by exfalso; simp at h2)) (fun h2 => ?_)
  try simp at h2
  refine awp_skip ?_
  refine awp_seq ?_
  refine awp_plain hN rfl ?_
  first | refine seq_run0 (stp_move (.dat _) rfl) ?_ | refine seq_run0 (stp_move (.ptr _ _) rfl) ?_ | refine seq_run0 (stp_move (.row _ _) rfl) ?_ | refine seq_run0 (stp_move (.rptr _ _ _ _ _) rfl) ?_ | refine seq_run0 (stp_move (.mp _) rfl) ?_
  first | refine seq_run0 (stp_assign (.dat _) rfl) ?_ | refine seq_run0 (stp_assign (.ptr _ _) rfl) ?_ | refine seq_run0 (stp_assign (.row _ _) rfl) ?_ | refine seq_run0 (stp_assign (.rptr _ _ _ _ _) rfl) ?_ | refine seq_run0 (stp_assign (.mp _) rfl) ?_
  refine awp_ret ?_
  exact ⟨trivial, ⟨⟨_, _, _, rfl, rfl, rfl⟩, trivial⟩, rfl⟩
theorem w_calls_m {L : List Int} {a a1 a2 a3 a4 a' : Int} (n : Int) (xs : List Inst) (hx : 0 < xs.length ∧ xs.length ≤ 100) (iR : ImpR Try.prog 87 25 (St L a) [vint n] 120 2 (xs.map instE) (St L a1)) (i1 : GI L 15 [vint 12] (vbool true) a1 a2) (r : Int) (hr : 0 ≤ r ∧ r < xs.length) (ke : List UInt8) (we : Int) (i2 : GI L 16 [vint ((xs.map instE).length : Int)] (vint r) a2 a3) (i3 : GI L 69 [vlst (strs [(nth ([], 0) xs r.toNat).1, [], [99, 97]])] (vstr ke) a3 a4) (i4 : GI L 55 [vint 0, vint 100] (vint we) a4 a')  : Imp Try.prog 24 25 (St L a) [vint n] (resOf [vlst ((xs.set r.toNat (ke, we)).map instE)]) (St L a') := by
  have hle := inst_len xs
  have hln : (xs.map instE).length = xs.length := by simp
  have hat := inst_at (l := xs) (k := r.toNat) (by omega)
  refine imp_of (us := [vlst ((xs.set r.toNat (ke, we)).map instE)]) (cs' := (St L a')) (by kernel_rfl) Try.func24 rfl rfl rfl rfl fun X bl hN => ?_
  refine awp_seq ?_
  refine awp_plain hN rfl ?_
  refine seq_run0 (stp_assign (.dat _) rfl) ?_
  refine awp_seq ?_
  refine awp_plain hN rfl ?_
  first | refine seq_run0 (stp_move (.dat _) rfl) ?_ | refine seq_run0 (stp_move (.ptr _ _) rfl) ?_ | refine seq_run0 (stp_move (.row _ _) rfl) ?_ | refine seq_run0 (stp_move (.rptr _ _ _ _ _) rfl) ?_ | refine seq_run0 (stp_move (.mp _) rfl) ?_
  first | refine seq_run0 (stp_move (.dat _) rfl) ?_ | refine seq_run0 (stp_move (.ptr _ _) rfl) ?_ | refine seq_run0 (stp_move (.row _ _) rfl) ?_ | refine seq_run0 (stp_move (.rptr _ _ _ _ _) rfl) ?_ | refine seq_run0 (stp_move (.mp _) rfl) ?_
  refine seq_run3 (stp_impR 101 (iR) rfl ⟨.inl rfl, trivial⟩ rfl rfl) rfl rfl ?_
  first | refine seq_run0 (stp_assign (.dat _) rfl) ?_ | refine seq_run0 (stp_assign (.ptr _ _) rfl) ?_ | refine seq_run0 (stp_assign (.row _ _) rfl) ?_ | refine seq_run0 (stp_assign (.rptr _ _ _ _ _) rfl) ?_ | refine seq_run0 (stp_assign (.mp _) rfl) ?_
  refine awp_seq ?_
  refine awp_seq ?_
  refine awp_plain hN rfl ?_
  first | refine seq_run0 (stp_move (.dat _) rfl) ?_ | refine seq_run0 (stp_move (.ptr _ _) rfl) ?_ | refine seq_run0 (stp_move (.row _ _) rfl) ?_ | refine seq_run0 (stp_move (.rptr _ _ _ _ _) rfl) ?_ | refine seq_run0 (stp_move (.mp _) rfl) ?_
  first | refine seq_run0 (stp_len_lst tyU56 rfl) ?_ | refine seq_run1 (stp_len_row tyU56 rfl rfl) rfl ?_ | refine seq_run0 (stp_len_nil tyU56 rfl) ?_
  refine seq_run0 (stp_gtr rfl rfl) ?_
  first | refine seq_run0 (stp_move (.dat _) rfl) ?_ | refine seq_run0 (stp_move (.ptr _ _) rfl) ?_ | refine seq_run0 (stp_move (.row _ _) rfl) ?_ | refine seq_run0 (stp_move (.rptr _ _ _ _ _) rfl) ?_ | refine seq_run0 (stp_move (.mp _) rfl) ?_
  refine seq_split (j := 3) rfl rfl (fun h1 => ?_) (fun h1 => (by exfalso; simp at h1; rw [h1] at hx; simp at hx)) rfl
  have qh1 := h1
  try simp at qh1
  first | refine seq_g0 rfl rfl h1 (stp_move (.dat _) rfl) ?_ | refine seq_g0 rfl rfl h1 (stp_move (.ptr _ _) rfl) ?_ | refine seq_g0 rfl rfl h1 (stp_move (.row _ _) rfl) ?_ | refine seq_g0 rfl rfl h1 (stp_move (.rptr _ _ _ _ _) rfl) ?_ | refine seq_g0 rfl rfl h1 (stp_move (.mp _) rfl) ?_
  refine seq_g2 rfl rfl h1 (stp_imp (i1) rfl ⟨.inl rfl, trivial⟩ rfl) rfl ?_
  refine seq_run0 (stp_pick_t rfl h1 rfl) ?_
  refine awp_cond _ rfl (fun h2 => ?_) (fun h2 => (by exfalso; simp at h2))
  try simp at h2
  refine awp_seq ?_
  refine awp_plain hN rfl ?_
  first | refine seq_run0 (stp_move (.dat _) rfl) ?_ | refine seq_run0 (stp_move (.ptr _ _) rfl) ?_ | refine seq_run0 (stp_move (.row _ _) rfl) ?_ | refine seq_run0 (stp_move (.rptr _ _ _ _ _) rfl) ?_ | refine seq_run0 (stp_move (.mp _) rfl) ?_
  first | refine seq_run0 (stp_move (.dat _) rfl) ?_ | refine seq_run0 (stp_move (.ptr _ _) rfl) ?_ | refine seq_run0 (stp_move (.row _ _) rfl) ?_ | refine seq_run0 (stp_move (.rptr _ _ _ _ _) rfl) ?_ | refine seq_run0 (stp_move (.mp _) rfl) ?_
  first | refine seq_run0 (stp_move (.dat _) rfl) ?_ | refine seq_run0 (stp_move (.ptr _ _) rfl) ?_ | refine seq_run0 (stp_move (.row _ _) rfl) ?_ | refine seq_run0 (stp_move (.rptr _ _ _ _ _) rfl) ?_ | refine seq_run0 (stp_move (.mp _) rfl) ?_
  first | refine seq_run0 (stp_len_lst tyU56 rfl) ?_ | refine seq_run1 (stp_len_row tyU56 rfl rfl) rfl ?_ | refine seq_run0 (stp_len_nil tyU56 rfl) ?_
  refine seq_run2 (stp_imp (i2) rfl ⟨.inl rfl, trivial⟩ rfl) rfl ?_
  first | refine seq_run0 (stp_idxE tyE56 rfl rfl (by omega) (by assumption)) ?_ | refine seq_run0 (stp_idxI tyE56 rfl rfl (by omega) (by assumption)) ?_ | refine seq_run1 (stp_idxR tyE56 rfl rfl (by first | rfl | omega | simp) (by first | omega | (simp; omega))) rfl ?_ | refine seq_run1 (stp_idxRI tyE56 rfl rfl (by first | rfl | omega | simp) (by first | omega | (simp; omega))) rfl ?_
  first | refine seq_run0 (stp_assign (.dat _) rfl) ?_ | refine seq_run0 (stp_assign (.ptr _ _) rfl) ?_ | refine seq_run0 (stp_assign (.row _ _) rfl) ?_ | refine seq_run0 (stp_assign (.rptr _ _ _ _ _) rfl) ?_ | refine seq_run0 (stp_assign (.mp _) rfl) ?_
  refine awp_plain hN rfl ?_
  first | refine seq_run0 (stp_move (.dat _) rfl) ?_ | refine seq_run0 (stp_move (.ptr _ _) rfl) ?_ | refine seq_run0 (stp_move (.row _ _) rfl) ?_ | refine seq_run0 (stp_move (.rptr _ _ _ _ _) rfl) ?_ | refine seq_run0 (stp_move (.mp _) rfl) ?_
  first | refine seq_run0 (stp_move (.dat _) rfl) ?_ | refine seq_run0 (stp_move (.ptr _ _) rfl) ?_ | refine seq_run0 (stp_move (.row _ _) rfl) ?_ | refine seq_run0 (stp_move (.rptr _ _ _ _ _) rfl) ?_ | refine seq_run0 (stp_move (.mp _) rfl) ?_
  first | refine seq_run0 (stp_move (.dat _) rfl) ?_ | refine seq_run0 (stp_move (.ptr _ _) rfl) ?_ | refine seq_run0 (stp_move (.row _ _) rfl) ?_ | refine seq_run0 (stp_move (.rptr _ _ _ _ _) rfl) ?_ | refine seq_run0 (stp_move (.mp _) rfl) ?_
  first | refine seq_run0 (stp_move (.dat _) rfl) ?_ | refine seq_run0 (stp_move (.ptr _ _) rfl) ?_ | refine seq_run0 (stp_move (.row _ _) rfl) ?_ | refine seq_run0 (stp_move (.rptr _ _ _ _ _) rfl) ?_ | refine seq_run0 (stp_move (.mp _) rfl) ?_
  first | refine seq_run0 (stp_nilP rfl) ?_ | refine seq_run0 (stp_nilE rfl) ?_ | refine seq_run0 (stp_nilR rfl) ?_
  first | refine seq_run0 (stp_fldP tyF120_0 rfl) ?_ | refine seq_run0 (stp_fldE tyF120_0 rfl) ?_ | refine seq_run0 (stp_fldR tyF120_0 rfl) ?_
  first | refine seq_run1 (stp_load1 tyS9 rfl rfl) rfl ?_ | refine seq_run0 (stp_loadE1 tyS9 rfl (by first | assumption | rfl) rfl) ?_ | refine seq_run1 (stp_loadR1 tyS9 rfl (by first | rfl | omega | simp) (by first | assumption | exact List.getElem?_set_self (by simp; omega)) rfl) rfl ?_
  refine seq_run0 (stp_lit [[_], [_], [_]] tyL73 ⟨rfl, .inl ⟨_, rfl, rfl, rfl⟩, rfl, rfl, .inl ⟨_, rfl, rfl, rfl⟩, rfl, rfl, .inl ⟨_, rfl, rfl, rfl⟩, rfl, trivial⟩ rfl rfl) ?_
  refine seq_run2 (stp_imp (i3) rfl ⟨.inl rfl, trivial⟩ rfl) rfl ?_
  first | refine seq_run0 (stp_move (.dat _) rfl) ?_ | refine seq_run0 (stp_move (.ptr _ _) rfl) ?_ | refine seq_run0 (stp_move (.row _ _) rfl) ?_ | refine seq_run0 (stp_move (.rptr _ _ _ _ _) rfl) ?_ | refine seq_run0 (stp_move (.mp _) rfl) ?_
  refine seq_run2 (stp_imp (i4) rfl ⟨.inl rfl, .inl rfl, trivial⟩ rfl) rfl ?_
  first | refine seq_run0 (stp_nilP rfl) ?_ | refine seq_run0 (stp_nilE rfl) ?_ | refine seq_run0 (stp_nilR rfl) ?_
  first | refine seq_run0 (stp_fldP tyF120_0 rfl) ?_ | refine seq_run0 (stp_fldE tyF120_0 rfl) ?_ | refine seq_run0 (stp_fldR tyF120_0 rfl) ?_
  first | refine seq_run2 (stp_store1 tyS9 rfl rfl rfl rfl) rfl ?_ | refine seq_run2 (stp_storeS tyS9 rfl rfl rfl rfl) rfl ?_ | refine seq_run2 (stp_storeR tyS9 rfl rfl rfl (by first | rfl | omega | simp) (by first | assumption | exact List.getElem?_set_self (by simp; omega)) rfl) rfl ?_
  first | refine seq_run0 (stp_nilP rfl) ?_ | refine seq_run0 (stp_nilE rfl) ?_ | refine seq_run0 (stp_nilR rfl) ?_
  first | refine seq_run0 (stp_fldP tyF120_1 rfl) ?_ | refine seq_run0 (stp_fldE tyF120_1 rfl) ?_ | refine seq_run0 (stp_fldR tyF120_1 rfl) ?_
  first | refine seq_run2 (stp_store1 tyS3 rfl rfl rfl rfl) rfl ?_ | refine seq_run2 (stp_storeS tyS3 rfl rfl rfl rfl) rfl ?_ | refine seq_run2 (stp_storeR tyS3 rfl rfl rfl (by first | rfl | omega | simp) (by first | assumption | exact List.getElem?_set_self (by simp; omega)) rfl) rfl ?_
  refine awp_seq ?_
  refine awp_plain hN rfl ?_
  first | refine seq_run0 (stp_move (.dat _) rfl) ?_ | refine seq_run0 (stp_move (.ptr _ _) rfl) ?_ | refine seq_run0 (stp_move (.row _ _) rfl) ?_ | refine seq_run0 (stp_move (.rptr _ _ _ _ _) rfl) ?_ | refine seq_run0 (stp_move (.mp _) rfl) ?_
  first | refine seq_run0 (stp_assign (.dat _) rfl) ?_ | refine seq_run0 (stp_assign (.ptr _ _) rfl) ?_ | refine seq_run0 (stp_assign (.row _ _) rfl) ?_ | refine seq_run0 (stp_assign (.rptr _ _ _ _ _) rfl) ?_ | refine seq_run0 (stp_assign (.mp _) rfl) ?_
  refine awp_ret ?_
  exact ⟨trivial, ⟨⟨_, _, _, rfl, by simp, by rw [List.map_set]; simp [instE]⟩, trivial⟩, rfl⟩
theorem g_rightCalls {L : List Int} (hL : ArgL L) {a : Int} (n : Int) (hn : 0 ≤ n ∧ n ≤ 20) (ha0 : 0 ≤ a) (ha1 : a ≤ 999998000) : ∃ (xs : List Inst) (a' : Int), (xs.length ≤ 20 ∧ ∀ p, p ∈ xs → p.1.length ≤ 10 ∧ 0 ≤ p.2 ∧ p.2 ≤ 1000) ∧ a ≤ a' ∧ a' ≤ a + 21 ∧ ImpR Try.prog 87 25 (St L a) [vint n] 120 2 (xs.map instE) (St L a') := by
  obtain ⟨c, c1, c2, iA⟩ := g_range hL (a := a) 0 n (by omega) (by omega) (by omega)
  obtain ⟨t, q1, q2, q3⟩ := trajS (S := CStep L) (I := CInv (a + 1)) (n := c.toNat) (fun k hk s hI => cstep hL (by omega) (by omega) k (by omega) s hI) ⟨[], 0, a + 1⟩ ⟨by simp, rfl, by simp, by simp, by simp⟩
  obtain ⟨r1, r2, r3, r4, r5⟩ := q3 c.toNat (Nat.le_refl _)
  have hcc : ((c.toNat : Nat) : Int) = c := by omega
  exact ⟨(t c.toNat).xs, (t c.toNat).a, ⟨by omega, r5⟩, by omega, by omega, w_rightCalls n c.toNat (by omega) t (by rw [hcc]; exact iA) q1 q2 q3⟩
theorem g_calls {L : List Int} (hL : ArgL L) {a : Int} (n : Int) (hn : 0 ≤ n ∧ n ≤ 20) (ha0 : 0 ≤ a) (ha1 : a ≤ 999998000) : ∃ (xs : List Inst) (a' : Int), (xs.length ≤ 20 ∧ ∀ p, p ∈ xs → p.1.length ≤ 10 ∧ -1099511627776 ≤ p.2 ∧ p.2 ≤ 1099511627776) ∧ a ≤ a' ∧ a' ≤ a + 40 ∧ GI L 24 [vint n] (vlst (xs.map instE)) a a' := by
  obtain ⟨xs, a1, ⟨hl, hok⟩, h1, h2, iR⟩ := g_rightCalls hL n hn ha0 (by omega)
  have hok' : ∀ p, p ∈ xs → p.1.length ≤ 10 ∧ -1099511627776 ≤ p.2 ∧ p.2 ≤ 1099511627776 := fun p hp => by have := hok p hp; omega
  rcases Nat.eq_zero_or_pos xs.length with h0 | hp
  · exact ⟨xs, _, ⟨hl, hok'⟩, by omega, by omega, w_calls_e n xs (List.eq_nil_of_length_eq_zero h0) iR⟩
  have hln : (xs.map instE).length = xs.length := by simp
  obtain ⟨b, i1⟩ := g_flip hL (a := a1) 12 (by omega) (by omega) (by omega) (by omega)
  cases b with
  | false => exact ⟨xs, _, ⟨hl, hok'⟩, by omega, by omega, w_calls_k n xs ⟨hp, by omega⟩ iR i1⟩
  | true =>
    obtain ⟨r, r1, r2, i2⟩ := g_next hL (a := a1 + 1) ((xs.map instE).length : Int) (by omega) (by omega) (by omega) (by omega)
    obtain ⟨ke, k1, i3⟩ := g_some hL (a := a1 + 1 + 1) [(nth ([], 0) xs r.toNat).1, [], [99, 97]] (by omega) (by omega) (by simp) (by simp)
    obtain ⟨we, w1, w2, i4⟩ := g_odd hL (a := a1 + 1 + 1 + 1) 0 100 (by omega) (by omega) (by omega)
    have hke : ke.length ≤ 10 := by
      have := (hok _ (nth_mem (d := ([], 0)) (l := xs) (k := r.toNat) (by omega))).1
      simp only [List.mem_cons, List.not_mem_nil, or_false] at k1
      rcases k1 with rfl | rfl | rfl <;> simp <;> omega
    refine ⟨_, _, ⟨by simpa using hl, fun p hp => ?_⟩, by omega, by omega, w_calls_m n xs ⟨hp, by omega⟩ iR i1 r ⟨r1, by omega⟩ ke we i2 i3 i4⟩
    rcases List.mem_or_eq_of_mem_set hp with h | rfl
    · exact hok' p h
    · exact ⟨hke, w1, w2⟩
end Go.Proofs.Ytmcegaabopcmfaa
