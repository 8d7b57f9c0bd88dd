/- Phases: what the stream makes. -/
import Derived.Test.YtmcegaabopcmfaaGc
import Derived.Test.YtmcegaabopcmfaaPh
namespace Go.Proofs.Ytmcegaabopcmfaa
open Go.RowKit
set_option linter.unusedVariables false
set_option maxRecDepth 20000

structure PSt where
  ps : List Pha
  lo : Int
  a : Int
def PStep (L : List Int) (key : List UInt8) (s s' : PSt) : Prop :=
  ∃ g d st tk m1 m2 m3, GI L 14 [vlst (ints [0, 0, 20])] (vint g) s.a m1 ∧ GI L 14 [vlst (ints [10, 30, 100, 1000])] (vint d) m1 m2 ∧
    GI L 14 [vlst (ints [200, 200, 404, 500, 503])] (vint st) m2 m3 ∧ GI L 14 [vlst (ints [0, 0, 3, 10, 20, 50])] (vint tk) m3 s'.a ∧
    0 ≤ g ∧ g ≤ 20 ∧ 0 ≤ d ∧ d ≤ 1000 ∧ s'.lo = s.lo + g + d ∧ s'.ps = s.ps ++ [⟨key, s.lo + g, s.lo + g + d, st, tk⟩]
def PhR (p : Pha) : Prop := p.k.length ≤ 10 ∧ -1099511627776 ≤ p.lo ∧ p.lo ≤ 1099511627776 ∧ -1099511627776 ≤ p.hi ∧ p.hi ≤ 1099511627776 ∧ -1099511627776 ≤ p.st ∧ p.st ≤ 1099511627776 ∧ -1099511627776 ≤ p.tk ∧ p.tk ≤ 1099511627776
def PInv (a : Int) (n0 : Nat) (k : Nat) (s : PSt) : Prop := s.a = a + 4 * k ∧ s.ps.length = n0 + k ∧ 0 ≤ s.lo ∧ s.lo ≤ 2000 * k ∧ ∀ p, p ∈ s.ps → PhR p
theorem pstep {L : List Int} (hL : ArgL L) {a : Int} (ha0 : 0 ≤ a) (ha1 : a ≤ 999999000) {n0 : Nat} {key : List UInt8} (hkey : key.length ≤ 10) (k : Nat) (hk : k < 3) (s : PSt) (hI : PInv a n0 k s) : ∃ s', PStep L key s s' ∧ PInv a n0 (k + 1) s' := by
  obtain ⟨i1, i2, i3, i4, i5⟩ := hI
  obtain ⟨g, q1, j1⟩ := g_pick hL (a := s.a) [0, 0, 20] (by omega) (by omega) (by simp) (by simp)
  obtain ⟨d, q2, j2⟩ := g_pick hL (a := s.a + 1) [10, 30, 100, 1000] (by omega) (by omega) (by simp) (by simp)
  obtain ⟨st, q3, j3⟩ := g_pick hL (a := s.a + 1 + 1) [200, 200, 404, 500, 503] (by omega) (by omega) (by simp) (by simp)
  obtain ⟨tk, q4, j4⟩ := g_pick hL (a := s.a + 1 + 1 + 1) [0, 0, 3, 10, 20, 50] (by omega) (by omega) (by simp) (by simp)
  simp at q1 q2 q3 q4
  refine ⟨⟨s.ps ++ [⟨key, s.lo + g, s.lo + g + d, st, tk⟩], s.lo + g + d, s.a + 1 + 1 + 1 + 1⟩, ⟨g, d, st, tk, _, _, _, j1, j2, j3, j4, by omega, by omega, by omega, by omega, rfl, rfl⟩, by simp only; omega, by simp; omega, by simp only; omega, by simp only; omega, fun p hp => ?_⟩
  rcases List.mem_append.1 hp with hp | hp
  · exact i5 p hp
  · have : p = ⟨key, s.lo + g, s.lo + g + d, st, tk⟩ := by simpa using hp
    subst this; unfold PhR; simp only; omega
/-- all phases of one instance -/
def OStep (L : List Int) (key : List UInt8) (s s' : List Pha × Int) : Prop :=
  ∃ (c : Nat) (m : Int) (tt : Nat → PSt), c ≤ 3 ∧ GI L 13 [vint 0, vint 3] (vint (c : Int)) s.2 m ∧ tt 0 = ⟨s.1, 0, m⟩ ∧ (∀ k, k < c → PStep L key (tt k) (tt (k + 1))) ∧ (∀ k, k ≤ c → PInv m s.1.length k (tt k)) ∧ s' = ((tt c).ps, (tt c).a)
def OInv (a : Int) (i : Nat) (s : List Pha × Int) : Prop := a ≤ s.2 ∧ s.2 ≤ a + 13 * i ∧ s.1.length ≤ 3 * i ∧ ∀ p, p ∈ s.1 → PhR p
theorem ostep {L : List Int} (hL : ArgL L) {a : Int} (ha0 : 0 ≤ a) (ha1 : a ≤ 999998000) {key : List UInt8} (hkey : key.length ≤ 10) (i : Nat) (hi : i < 10) (s : List Pha × Int) (hI : OInv a i s) : ∃ s', OStep L key s s' ∧ OInv a (i + 1) s' := by
  obtain ⟨i1, i2, i3, i4⟩ := hI
  obtain ⟨c, c1, c2, iA⟩ := g_range hL (a := s.2) 0 3 (by omega) (by omega) (by omega)
  obtain ⟨t, q1, q2, q3⟩ := trajS (S := fun _ => PStep L key) (I := PInv (s.2 + 1) s.1.length) (n := c.toNat) (fun k hk s hI => pstep hL (by omega) (by omega) hkey k (by omega) s hI) ⟨s.1, 0, s.2 + 1⟩ ⟨by simp, rfl, by simp, by simp, i4⟩
  obtain ⟨r1, r2, r3, r4, r5⟩ := q3 c.toNat (Nat.le_refl _)
  have hcc : ((c.toNat : Nat) : Int) = c := by omega
  exact ⟨((t c.toNat).ps, (t c.toNat).a), ⟨c.toNat, s.2 + 1, t, by omega, by rw [hcc]; exact iA, q1, q2, q3, rfl⟩, by simp only; omega, by simp only; omega, by simp only; omega, r5⟩
theorem w_rightPhases {L : List Int} {a : Int} (xs : List Inst) (hxl : xs.length ≤ 10) (t : Nat → List Pha × Int) (ht0 : t 0 = ([], a)) (hS : ∀ i, i < xs.length → OStep L (ky xs i) (t i) (t (i + 1))) (hInv : ∀ i, i ≤ xs.length → OInv a i (t i))  : ImpR Try.prog 88 25 (St L a) [vlst (xs.map instE)] 125 5 ((t xs.length).1.map phaE) (St L (t xs.length).2) := by
  have hle := inst_len xs
  have hln : (xs.map instE).length = xs.length := by simp
  refine impR_of (cs' := (St L (t xs.length).2)) (es := ((t xs.length).1.map phaE)) (by kernel_rfl) Try.func88 rfl rfl rfl rfl fun X bl hN => ?_
  refine awp_seq ?_
  refine awp_plain hN rfl ?_
  refine seq_run0 (stp_assign (.dat _) rfl) ?_
  refine awp_seq ?_
  refine awp_plain hN rfl ?_
  refine seq_run0 (stp_assign (.dat _) rfl) ?_
  refine awp_seq ?_
  refine awp_seq ?_
  refine awp_plain hN rfl ?_
  first | refine seq_run0 (stp_move (.dat _) rfl) ?_ | refine seq_run0 (stp_move (.ptr _ _) rfl) ?_ | refine seq_run0 (stp_move (.row _ _) rfl) ?_ | refine seq_run0 (stp_move (.rptr _ _ _ _ _) rfl) ?_ | refine seq_run0 (stp_move (.mp _) rfl) ?_
  first | refine seq_run0 (stp_len_lst tyU48 rfl) ?_ | refine seq_run1 (stp_len_row tyU48 rfl rfl) rfl ?_ | refine seq_run0 (stp_len_nil tyU48 rfl) ?_
  refine seq_run0 (stp_move (.dat _) rfl) ?_
  refine awp_block ?_
  refine awp_nilrow 5 9 125 5 rfl rfl rfl ?_
  refine awp_loop (fun i : Nat => [(0, .ptr 0 0), (5, .row 9 ((t i).1.map phaE).length), (10, .dat (vlst (xs.map instE))), (11, .dat (vint ((xs.map instE).length : Int))), (12, .dat (vint (i : Int)))]) (fun i : Nat => [(0, .box (some bl) 25 ((St L (t i).2).map .dat)), (9, .row 125 5 ((t i).1.map phaE))]) (fun i : Nat => i ≤ xs.length) (fun i : Nat => xs.length - i) 0 (by omega) ⟨rfl, by rw [ht0]; rfl, rfl, rfl, rfl, trivial⟩ ⟨by rw [ht0]; rfl, by rw [ht0]; rfl, trivial⟩ (fun _ => rfl) (fun i hI => ?_)
  refine awp_seq ?_
  refine awp_plain hN rfl ?_
  refine seq_run0 (stp_lss rfl rfl) ?_
  refine awp_seq ?_
  refine awp_cond _ rfl (fun h1 => ?_) (fun h1 => ?_)
  · -- yes
    try simp at h1
    have hi : i < xs.length := by omega
    have hat := inst_at hi
    obtain ⟨c, m, tt, hc3, i1, htt, hst, hiv, hnx⟩ := hS i hi
    obtain ⟨o1, o2, o3, o4⟩ := hInv i (by omega)
    refine awp_skip ?_
    refine awp_seq ?_
    refine awp_block ?_
    refine awp_seq ?_
    refine awp_plain hN rfl ?_
    first | refine seq_run0 (stp_idxE tyE48 rfl rfl (by omega) (by assumption)) ?_ | refine seq_run0 (stp_idxI tyE48 rfl rfl (by omega) (by assumption)) ?_ | refine seq_run1 (stp_idxR tyE48 rfl rfl (by first | rfl | omega | simp) (by first | omega | (simp; omega))) rfl ?_ | refine seq_run1 (stp_idxRI tyE48 rfl rfl (by first | rfl | omega | simp) (by first | omega | (simp; omega))) rfl ?_
    first | refine seq_run1 (stp_loadA tyS114 rfl rfl rfl) rfl ?_ | refine seq_run0 (stp_loadEA tyS114 rfl (by first | assumption | rfl) rfl) ?_ | refine seq_run1 (stp_loadRA tyS114 rfl (by first | rfl | omega | simp) (by first | assumption | exact List.getElem?_set_self (by simp; omega)) rfl) rfl ?_ | refine seq_run0 (stp_loadEP tyS114 rfl (by first | assumption | rfl) rfl) ?_
    refine seq_run2 (stp_alloc 1 tyZ114 rfl) rfl ?_
    first | refine seq_run2 (stp_storeW tyS114 rfl rfl rfl rfl) rfl ?_ | refine seq_run2 (stp_storeA tyS114 rfl rfl rfl rfl) rfl ?_
    refine awp_seq ?_
    refine awp_plain hN rfl ?_
    refine seq_run0 (stp_assign (.dat _) rfl) ?_
    refine awp_seq ?_
    refine awp_plain hN rfl ?_
    first | refine seq_run0 (stp_move (.dat _) rfl) ?_ | refine seq_run0 (stp_move (.ptr _ _) rfl) ?_ | refine seq_run0 (stp_move (.row _ _) rfl) ?_ | refine seq_run0 (stp_move (.rptr _ _ _ _ _) rfl) ?_ | refine seq_run0 (stp_move (.mp _) rfl) ?_
    refine seq_run2 (stp_imp (i1) rfl ⟨.inl rfl, .inl rfl, trivial⟩ rfl) rfl ?_
    refine seq_run0 (stp_move (.dat _) rfl) ?_
    refine awp_block ?_
    refine awp_loop (fun k : Nat => [(0, .ptr 0 0), (5, .row 9 ((tt k).ps.map phaE).length), (10, .dat (vlst (xs.map instE))), (11, .dat (vint ((xs.map instE).length : Int))), (12, .dat (vint (i : Int))), (7, .ptr 1 0), (8, .dat (vint (tt k).lo)), (17, .dat (vint (c : Int))), (18, .dat (vint (k : Int)))]) (fun k : Nat => [(0, .box (some bl) 25 ((St L (tt k).a).map .dat)), (9, .row 125 5 ((tt k).ps.map phaE)), (1, .box none 114 ((instE (nth ([], 0) xs i)).map .dat))]) (fun k : Nat => k ≤ c) (fun k : Nat => c - k) 0 (by omega) ⟨rfl, by rw [htt]; rfl, rfl, rfl, rfl, rfl, by rw [htt]; rfl, rfl, rfl, trivial⟩ ⟨by rw [htt]; rfl, by rw [htt]; rfl, rfl, trivial⟩ (fun _ => rfl) (fun k hI => ?_)
    refine awp_seq ?_
    refine awp_plain hN rfl ?_
    refine seq_run0 (stp_lss rfl rfl) ?_
    refine awp_seq ?_
    refine awp_cond _ rfl (fun h2 => ?_) (fun h2 => ?_)
    · -- yes
      try simp at h2
      have hk : k < c := by omega
      obtain ⟨g, d, st, tk, m1, m2, m3, i2, i3, i4, i5, g0, g1, d0, d1, hs1, hs2⟩ := hst k hk
      obtain ⟨v1, v2, v3, v4, v5⟩ := hiv k (by omega)
      have hlen : (tt k).ps.length ≤ 100 := by omega
      refine awp_skip ?_
      refine awp_seq ?_
      refine awp_block ?_
      refine awp_seq ?_
      refine awp_plain hN rfl ?_
      first | refine seq_run0 (stp_move (.dat _) rfl) ?_ | refine seq_run0 (stp_move (.ptr _ _) rfl) ?_ | refine seq_run0 (stp_move (.row _ _) rfl) ?_ | refine seq_run0 (stp_move (.rptr _ _ _ _ _) rfl) ?_ | refine seq_run0 (stp_move (.mp _) rfl) ?_
      first | refine seq_run0 (stp_move (.dat _) rfl) ?_ | refine seq_run0 (stp_move (.ptr _ _) rfl) ?_ | refine seq_run0 (stp_move (.row _ _) rfl) ?_ | refine seq_run0 (stp_move (.rptr _ _ _ _ _) rfl) ?_ | refine seq_run0 (stp_move (.mp _) rfl) ?_
      refine seq_run0 (stp_lit [[_], [_], [_]] tyL22 ⟨rfl, .inl ⟨_, rfl, rfl, rfl⟩, rfl, rfl, .inl ⟨_, rfl, rfl, rfl⟩, rfl, rfl, .inl ⟨_, rfl, rfl, rfl⟩, rfl, trivial⟩ rfl rfl) ?_
      refine seq_run2 (stp_imp (i2) rfl ⟨.inl rfl, trivial⟩ rfl) rfl ?_
      refine seq_run0 (stp_add rfl rfl (by omega)) ?_
      first | refine seq_run0 (stp_assign (.dat _) rfl) ?_ | refine seq_run0 (stp_assign (.ptr _ _) rfl) ?_ | refine seq_run0 (stp_assign (.row _ _) rfl) ?_ | refine seq_run0 (stp_assign (.rptr _ _ _ _ _) rfl) ?_ | refine seq_run0 (stp_assign (.mp _) rfl) ?_
      refine awp_seq ?_
      refine awp_plain hN rfl ?_
      first | refine seq_run0 (stp_move (.dat _) rfl) ?_ | refine seq_run0 (stp_move (.ptr _ _) rfl) ?_ | refine seq_run0 (stp_move (.row _ _) rfl) ?_ | refine seq_run0 (stp_move (.rptr _ _ _ _ _) rfl) ?_ | refine seq_run0 (stp_move (.mp _) rfl) ?_
      first | refine seq_run0 (stp_move (.dat _) rfl) ?_ | refine seq_run0 (stp_move (.ptr _ _) rfl) ?_ | refine seq_run0 (stp_move (.row _ _) rfl) ?_ | refine seq_run0 (stp_move (.rptr _ _ _ _ _) rfl) ?_ | refine seq_run0 (stp_move (.mp _) rfl) ?_
      refine seq_run0 (stp_lit [[_], [_], [_], [_]] tyL22 ⟨rfl, .inl ⟨_, rfl, rfl, rfl⟩, rfl, rfl, .inl ⟨_, rfl, rfl, rfl⟩, rfl, rfl, .inl ⟨_, rfl, rfl, rfl⟩, rfl, rfl, .inl ⟨_, rfl, rfl, rfl⟩, rfl, trivial⟩ rfl rfl) ?_
      refine seq_run2 (stp_imp (i3) rfl ⟨.inl rfl, trivial⟩ rfl) rfl ?_
      refine seq_run0 (stp_add rfl rfl (by omega)) ?_
      first | refine seq_run0 (stp_assign (.dat _) rfl) ?_ | refine seq_run0 (stp_assign (.ptr _ _) rfl) ?_ | refine seq_run0 (stp_assign (.row _ _) rfl) ?_ | refine seq_run0 (stp_assign (.rptr _ _ _ _ _) rfl) ?_ | refine seq_run0 (stp_assign (.mp _) rfl) ?_
      refine awp_seq ?_
      refine awp_draw mixed hN rfl rfl ?_
      first | refine seq_run0 (stp_move (.dat _) rfl) ?_ | refine seq_run0 (stp_move (.ptr _ _) rfl) ?_ | refine seq_run0 (stp_move (.row _ _) rfl) ?_ | refine seq_run0 (stp_move (.rptr _ _ _ _ _) rfl) ?_ | refine seq_run0 (stp_move (.mp _) rfl) ?_
      first | refine seq_run0 (stp_fldP tyF114_0 rfl) ?_ | refine seq_run0 (stp_fldE tyF114_0 rfl) ?_ | refine seq_run0 (stp_fldR tyF114_0 rfl) ?_
      first | refine seq_run1 (stp_load1 tyS9 rfl rfl) rfl ?_ | refine seq_run0 (stp_loadE1 tyS9 rfl (by first | assumption | rfl) rfl) ?_ | refine seq_run1 (stp_loadR1 tyS9 rfl (by first | rfl | omega | simp) (by first | assumption | exact List.getElem?_set_self (by simp; omega)) rfl) rfl ?_
      first | refine seq_run0 (stp_move (.dat _) rfl) ?_ | refine seq_run0 (stp_move (.ptr _ _) rfl) ?_ | refine seq_run0 (stp_move (.row _ _) rfl) ?_ | refine seq_run0 (stp_move (.rptr _ _ _ _ _) rfl) ?_ | refine seq_run0 (stp_move (.mp _) rfl) ?_
      first | refine seq_run0 (stp_move (.dat _) rfl) ?_ | refine seq_run0 (stp_move (.ptr _ _) rfl) ?_ | refine seq_run0 (stp_move (.row _ _) rfl) ?_ | refine seq_run0 (stp_move (.rptr _ _ _ _ _) rfl) ?_ | refine seq_run0 (stp_move (.mp _) rfl) ?_
      refine seq_run0 (stp_build [(0, [_]), (1, [_])] tyZ123 tyP123 rfl ⟨rfl, .inl ⟨_, rfl, rfl, rfl⟩, rfl, rfl, .inl ⟨_, rfl, rfl, rfl⟩, rfl, trivial⟩) ?_
      first | refine seq_run0 (stp_move (.dat _) rfl) ?_ | refine seq_run0 (stp_move (.ptr _ _) rfl) ?_ | refine seq_run0 (stp_move (.row _ _) rfl) ?_ | refine seq_run0 (stp_move (.rptr _ _ _ _ _) rfl) ?_ | refine seq_run0 (stp_move (.mp _) rfl) ?_
      refine seq_run0 (stp_lit [[_], [_], [_], [_], [_]] tyL22 ⟨rfl, .inl ⟨_, rfl, rfl, rfl⟩, rfl, rfl, .inl ⟨_, rfl, rfl, rfl⟩, rfl, rfl, .inl ⟨_, rfl, rfl, rfl⟩, rfl, rfl, .inl ⟨_, rfl, rfl, rfl⟩, rfl, rfl, .inl ⟨_, rfl, rfl, rfl⟩, rfl, trivial⟩ rfl rfl) ?_
      refine seq_run2 (stp_imp (i4) rfl ⟨.inl rfl, trivial⟩ rfl) rfl ?_
      first | refine seq_run0 (stp_move (.dat _) rfl) ?_ | refine seq_run0 (stp_move (.ptr _ _) rfl) ?_ | refine seq_run0 (stp_move (.row _ _) rfl) ?_ | refine seq_run0 (stp_move (.rptr _ _ _ _ _) rfl) ?_ | refine seq_run0 (stp_move (.mp _) rfl) ?_
      refine seq_run0 (stp_lit [[_], [_], [_], [_], [_], [_]] tyL22 ⟨rfl, .inl ⟨_, rfl, rfl, rfl⟩, rfl, rfl, .inl ⟨_, rfl, rfl, rfl⟩, rfl, rfl, .inl ⟨_, rfl, rfl, rfl⟩, rfl, rfl, .inl ⟨_, rfl, rfl, rfl⟩, rfl, rfl, .inl ⟨_, rfl, rfl, rfl⟩, rfl, rfl, .inl ⟨_, rfl, rfl, rfl⟩, rfl, trivial⟩ rfl rfl) ?_
      refine seq_run2 (stp_imp (i5) rfl ⟨.inl rfl, trivial⟩ rfl) rfl ?_
      refine seq_run0 (stp_build [(0, [_]), (1, _), (3, [_]), (4, [_])] tyZ125 tyP125 rfl ⟨rfl, .inl ⟨_, rfl, rfl, rfl⟩, rfl, rfl, .inr rfl, rfl, rfl, .inl ⟨_, rfl, rfl, rfl⟩, rfl, rfl, .inl ⟨_, rfl, rfl, rfl⟩, rfl, trivial⟩) ?_
      refine seq_run0 (stp_lit [_] tyL58 ⟨rfl, .inr rfl, rfl, trivial⟩ rfl rfl) ?_
      first | refine seq_run2 (stp_app tyL58 rfl rfl (by simp) (by first | (intro el h; simp only [List.mem_singleton] at h; subst h; rfl) | assumption | simp) (by simp; omega) (by simp; omega)) rfl ?_ | refine seq_run2 (stp_appN 7 tyL58 rfl rfl (by simp) (by first | (intro el h; simp only [List.mem_singleton] at h; subst h; rfl) | assumption | simp) (by simp) (by simp)) rfl ?_
      first | refine seq_run0 (stp_assign (.dat _) rfl) ?_ | refine seq_run0 (stp_assign (.ptr _ _) rfl) ?_ | refine seq_run0 (stp_assign (.row _ _) rfl) ?_ | refine seq_run0 (stp_assign (.rptr _ _ _ _ _) rfl) ?_ | refine seq_run0 (stp_assign (.mp _) rfl) ?_
      refine ⟨rfl, ?_⟩
      refine awp_plain hN rfl ?_
      first | refine seq_run0 (stp_move (.dat _) rfl) ?_ | refine seq_run0 (stp_move (.ptr _ _) rfl) ?_ | refine seq_run0 (stp_move (.row _ _) rfl) ?_ | refine seq_run0 (stp_move (.rptr _ _ _ _ _) rfl) ?_ | refine seq_run0 (stp_move (.mp _) rfl) ?_
      first | refine seq_run0 (stp_assign (.dat _) rfl) ?_ | refine seq_run0 (stp_assign (.ptr _ _) rfl) ?_ | refine seq_run0 (stp_assign (.row _ _) rfl) ?_ | refine seq_run0 (stp_assign (.rptr _ _ _ _ _) rfl) ?_ | refine seq_run0 (stp_assign (.mp _) rfl) ?_
      refine awp_plain hN rfl ?_
      refine seq_run0 (stp_add rfl rfl (by omega)) ?_
      first | refine seq_run0 (stp_move (.dat _) rfl) ?_ | refine seq_run0 (stp_move (.ptr _ _) rfl) ?_ | refine seq_run0 (stp_move (.row _ _) rfl) ?_ | refine seq_run0 (stp_move (.rptr _ _ _ _ _) rfl) ?_ | refine seq_run0 (stp_move (.mp _) rfl) ?_
      exact ⟨k + 1, by omega, by omega, ⟨rfl, (by rw [hs2, List.map_append]; rfl), rfl, rfl, rfl, rfl, (by rw [hs1]; rfl), rfl, rfl, trivial⟩, ⟨rfl, (by rw [hs2, List.map_append]; rfl), rfl, trivial⟩⟩
    · -- no
      try simp at h2
      obtain rfl : k = c := by omega
      refine awp_exit ?_
      refine awp_plain hN rfl ?_
      refine seq_run0 (stp_add rfl rfl (by omega)) ?_
      first | refine seq_run0 (stp_move (.dat _) rfl) ?_ | refine seq_run0 (stp_move (.ptr _ _) rfl) ?_ | refine seq_run0 (stp_move (.row _ _) rfl) ?_ | refine seq_run0 (stp_move (.rptr _ _ _ _ _) rfl) ?_ | refine seq_run0 (stp_move (.mp _) rfl) ?_
      exact ⟨i + 1, by omega, by omega, ⟨rfl, (by rw [hnx]; rfl), rfl, rfl, rfl, trivial⟩, ⟨(by rw [hnx]; rfl), (by rw [hnx]; rfl), trivial⟩⟩
  · -- no
    try simp at h1
    refine awp_exit ?_
    refine awp_seq ?_
    refine awp_plain hN rfl ?_
    first | refine seq_run0 (stp_move (.dat _) rfl) ?_ | refine seq_run0 (stp_move (.ptr _ _) rfl) ?_ | refine seq_run0 (stp_move (.row _ _) rfl) ?_ | refine seq_run0 (stp_move (.rptr _ _ _ _ _) rfl) ?_ | refine seq_run0 (stp_move (.mp _) rfl) ?_
    first | refine seq_run0 (stp_assign (.dat _) rfl) ?_ | refine seq_run0 (stp_assign (.ptr _ _) rfl) ?_ | refine seq_run0 (stp_assign (.row _ _) rfl) ?_ | refine seq_run0 (stp_assign (.rptr _ _ _ _ _) rfl) ?_ | refine seq_run0 (stp_assign (.mp _) rfl) ?_
    refine awp_ret ?_
    obtain rfl : i = xs.length := by omega
    exact ⟨trivial, ⟨9, rfl, rfl⟩, rfl⟩
theorem w_phases_e {L : List Int} {a a' : Int} (xs : List Inst) (ps : List Pha) (hx : ps = []) (iR : ImpR Try.prog 88 25 (St L a) [vlst (xs.map instE)] 125 5 (ps.map phaE) (St L a'))  : Imp Try.prog 25 25 (St L a) [vlst (xs.map instE)] (resOf [vlst (ps.map phaE)]) (St L a') := by
  have hle := pha_len ps
  have hln : (ps.map phaE).length = ps.length := by simp
  have hx0 : ps.length = 0 := by rw [hx]; rfl
  refine imp_of (us := [vlst (ps.map phaE)]) (cs' := (St L a')) (by kernel_rfl) Try.func25 rfl rfl rfl rfl fun X bl hN => ?_
  refine awp_seq ?_
  refine awp_plain hN rfl ?_
  refine seq_run0 (stp_assign (.dat _) rfl) ?_
  refine awp_seq ?_
  refine awp_plain hN rfl ?_
  first | refine seq_run0 (stp_move (.dat _) rfl) ?_ | refine seq_run0 (stp_move (.ptr _ _) rfl) ?_ | refine seq_run0 (stp_move (.row _ _) rfl) ?_ | refine seq_run0 (stp_move (.rptr _ _ _ _ _) rfl) ?_ | refine seq_run0 (stp_move (.mp _) rfl) ?_
  first | refine seq_run0 (stp_move (.dat _) rfl) ?_ | refine seq_run0 (stp_move (.ptr _ _) rfl) ?_ | refine seq_run0 (stp_move (.row _ _) rfl) ?_ | refine seq_run0 (stp_move (.rptr _ _ _ _ _) rfl) ?_ | refine seq_run0 (stp_move (.mp _) rfl) ?_
  refine seq_run3 (stp_impR 101 (iR) rfl ⟨.inl rfl, trivial⟩ rfl rfl) rfl rfl ?_
  first | refine seq_run0 (stp_assign (.dat _) rfl) ?_ | refine seq_run0 (stp_assign (.ptr _ _) rfl) ?_ | refine seq_run0 (stp_assign (.row _ _) rfl) ?_ | refine seq_run0 (stp_assign (.rptr _ _ _ _ _) rfl) ?_ | refine seq_run0 (stp_assign (.mp _) rfl) ?_
  refine awp_seq ?_
  refine awp_seq ?_
  refine awp_plain hN rfl ?_
  first | refine seq_run0 (stp_move (.dat _) rfl) ?_ | refine seq_run0 (stp_move (.ptr _ _) rfl) ?_ | refine seq_run0 (stp_move (.row _ _) rfl) ?_ | refine seq_run0 (stp_move (.rptr _ _ _ _ _) rfl) ?_ | refine seq_run0 (stp_move (.mp _) rfl) ?_
  first | refine seq_run0 (stp_len_lst tyU58 rfl) ?_ | refine seq_run1 (stp_len_row tyU58 rfl rfl) rfl ?_ | refine seq_run0 (stp_len_nil tyU58 rfl) ?_
  refine seq_run0 (stp_gtr rfl rfl) ?_
  first | refine seq_run0 (stp_move (.dat _) rfl) ?_ | refine seq_run0 (stp_move (.ptr _ _) rfl) ?_ | refine seq_run0 (stp_move (.row _ _) rfl) ?_ | refine seq_run0 (stp_move (.rptr _ _ _ _ _) rfl) ?_ | refine seq_run0 (stp_move (.mp _) rfl) ?_
  refine seq_split (j := 3) rfl rfl (fun h1 => (by exfalso; simp [hx] at h1)) (fun h1 => ?_) rfl
  have qh1 := h1
  try simp at qh1
  refine seq_skip rfl rfl h1 ?_
  refine seq_skip rfl rfl h1 ?_
  refine seq_run0 (stp_pick_f' rfl h1 rfl) ?_
  refine awp_cond _ rfl (fun h2 => (by exfalso; simp at h2)) (fun h2 => ?_)
  try simp at h2
  refine awp_skip ?_
  refine awp_seq ?_
  refine awp_plain hN rfl ?_
  first | refine seq_run0 (stp_move (.dat _) rfl) ?_ | refine seq_run0 (stp_move (.ptr _ _) rfl) ?_ | refine seq_run0 (stp_move (.row _ _) rfl) ?_ | refine seq_run0 (stp_move (.rptr _ _ _ _ _) rfl) ?_ | refine seq_run0 (stp_move (.mp _) rfl) ?_
  first | refine seq_run0 (stp_assign (.dat _) rfl) ?_ | refine seq_run0 (stp_assign (.ptr _ _) rfl) ?_ | refine seq_run0 (stp_assign (.row _ _) rfl) ?_ | refine seq_run0 (stp_assign (.rptr _ _ _ _ _) rfl) ?_ | refine seq_run0 (stp_assign (.mp _) rfl) ?_
  refine awp_ret ?_
  exact ⟨trivial, ⟨⟨_, _, _, rfl, rfl, rfl⟩, trivial⟩, rfl⟩
theorem w_phases_k {L : List Int} {a a1 a' : Int} (xs : List Inst) (ps : List Pha) (hx : 0 < ps.length ∧ ps.length ≤ 100) (iR : ImpR Try.prog 88 25 (St L a) [vlst (xs.map instE)] 125 5 (ps.map phaE) (St L a1)) (i1 : GI L 15 [vint 12] (vbool false) a1 a')  : Imp Try.prog 25 25 (St L a) [vlst (xs.map instE)] (resOf [vlst (ps.map phaE)]) (St L a') := by
  have hle := pha_len ps
  have hln : (ps.map phaE).length = ps.length := by simp
  refine imp_of (us := [vlst (ps.map phaE)]) (cs' := (St L a')) (by kernel_rfl) Try.func25 rfl rfl rfl rfl fun X bl hN => ?_
  refine awp_seq ?_
  refine awp_plain hN rfl ?_
  refine seq_run0 (stp_assign (.dat _) rfl) ?_
  refine awp_seq ?_
  refine awp_plain hN rfl ?_
  first | refine seq_run0 (stp_move (.dat _) rfl) ?_ | refine seq_run0 (stp_move (.ptr _ _) rfl) ?_ | refine seq_run0 (stp_move (.row _ _) rfl) ?_ | refine seq_run0 (stp_move (.rptr _ _ _ _ _) rfl) ?_ | refine seq_run0 (stp_move (.mp _) rfl) ?_
  first | refine seq_run0 (stp_move (.dat _) rfl) ?_ | refine seq_run0 (stp_move (.ptr _ _) rfl) ?_ | refine seq_run0 (stp_move (.row _ _) rfl) ?_ | refine seq_run0 (stp_move (.rptr _ _ _ _ _) rfl) ?_ | refine seq_run0 (stp_move (.mp _) rfl) ?_
  refine seq_run3 (stp_impR 101 (iR) rfl ⟨.inl rfl, trivial⟩ rfl rfl) rfl rfl ?_
  first | refine seq_run0 (stp_assign (.dat _) rfl) ?_ | refine seq_run0 (stp_assign (.ptr _ _) rfl) ?_ | refine seq_run0 (stp_assign (.row _ _) rfl) ?_ | refine seq_run0 (stp_assign (.rptr _ _ _ _ _) rfl) ?_ | refine seq_run0 (stp_assign (.mp _) rfl) ?_
  refine awp_seq ?_
  refine awp_seq ?_
  refine awp_plain hN rfl ?_
  first | refine seq_run0 (stp_move (.dat _) rfl) ?_ | refine seq_run0 (stp_move (.ptr _ _) rfl) ?_ | refine seq_run0 (stp_move (.row _ _) rfl) ?_ | refine seq_run0 (stp_move (.rptr _ _ _ _ _) rfl) ?_ | refine seq_run0 (stp_move (.mp _) rfl) ?_
  first | refine seq_run0 (stp_len_lst tyU58 rfl) ?_ | refine seq_run1 (stp_len_row tyU58 rfl rfl) rfl ?_ | refine seq_run0 (stp_len_nil tyU58 rfl) ?_
  refine seq_run0 (stp_gtr rfl rfl) ?_
  first | refine seq_run0 (stp_move (.dat _) rfl) ?_ | refine seq_run0 (stp_move (.ptr _ _) rfl) ?_ | refine seq_run0 (stp_move (.row _ _) rfl) ?_ | refine seq_run0 (stp_move (.rptr _ _ _ _ _) rfl) ?_ | refine seq_run0 (stp_move (.mp _) rfl) ?_
  refine seq_split (j := 3) rfl rfl (fun h1 => ?_) (fun h1 => (by exfalso; simp at h1; rw [h1] at hx; simp at hx)) rfl
  have qh1 := h1
  try simp at qh1
  first | refine seq_g0 rfl rfl h1 (stp_move (.dat _) rfl) ?_ | refine seq_g0 rfl rfl h1 (stp_move (.ptr _ _) rfl) ?_ | refine seq_g0 rfl rfl h1 (stp_move (.row _ _) rfl) ?_ | refine seq_g0 rfl rfl h1 (stp_move (.rptr _ _ _ _ _) rfl) ?_ | refine seq_g0 rfl rfl h1 (stp_move (.mp _) rfl) ?_
  refine seq_g2 rfl rfl h1 (stp_imp (i1) rfl ⟨.inl rfl, trivial⟩ rfl) rfl ?_
  refine seq_run0 (stp_pick_t rfl h1 rfl) ?_
  refine awp_cond _ rfl (fun h2 => (by exfalso; simp at h2)) (fun h2 => ?_)
  try simp at h2
  refine awp_skip ?_
  refine awp_seq ?_
  refine awp_plain hN rfl ?_
  first | refine seq_run0 (stp_move (.dat _) rfl) ?_ | refine seq_run0 (stp_move (.ptr _ _) rfl) ?_ | refine seq_run0 (stp_move (.row _ _) rfl) ?_ | refine seq_run0 (stp_move (.rptr _ _ _ _ _) rfl) ?_ | refine seq_run0 (stp_move (.mp _) rfl) ?_
  first | refine seq_run0 (stp_assign (.dat _) rfl) ?_ | refine seq_run0 (stp_assign (.ptr _ _) rfl) ?_ | refine seq_run0 (stp_assign (.row _ _) rfl) ?_ | refine seq_run0 (stp_assign (.rptr _ _ _ _ _) rfl) ?_ | refine seq_run0 (stp_assign (.mp _) rfl) ?_
  refine awp_ret ?_
  exact ⟨trivial, ⟨⟨_, _, _, rfl, rfl, rfl⟩, trivial⟩, rfl⟩
theorem w_phases_m {L : List Int} {a a1 a2 a3 a4 a5 a6 a' : Int} (xs : List Inst) (ps : List Pha) (hx : 0 < ps.length ∧ ps.length ≤ 100) (iR : ImpR Try.prog 88 25 (St L a) [vlst (xs.map instE)] 125 5 (ps.map phaE) (St L a1)) (i1 : GI L 15 [vint 12] (vbool true) a1 a2) (r : Int) (hr : 0 ≤ r ∧ r < ps.length) (ke : List UInt8) (x y z : Int) (i2 : GI L 16 [vint ((ps.map phaE).length : Int)] (vint r) a2 a3) (i3 : GI L 69 [vlst (strs [(nth ph0 ps r.toNat).k, [110, 111, 110, 101]])] (vstr ke) a3 a4) (i4 : GI L 55 [vint 0, vint 50] (vint x) a4 a5) (i5 : GI L 55 [vint 100, vint 599] (vint y) a5 a6) (i6 : GI L 55 [vint 0, vint 3600000] (vint z) a6 a')  : Imp Try.prog 25 25 (St L a) [vlst (xs.map instE)] (resOf [vlst ((ps.set r.toNat ⟨ke, x, (nth ph0 ps r.toNat).hi, y, z⟩).map phaE)]) (St L a') := by
  have hle := pha_len ps
  have hln : (ps.map phaE).length = ps.length := by simp
  have hat := pha_at (l := ps) (k := r.toNat) (by omega)
  refine imp_of (us := [vlst ((ps.set r.toNat ⟨ke, x, (nth ph0 ps r.toNat).hi, y, z⟩).map phaE)]) (cs' := (St L a')) (by kernel_rfl) Try.func25 rfl rfl rfl rfl fun X bl hN => ?_
  refine awp_seq ?_
  refine awp_plain hN rfl ?_
  refine seq_run0 (stp_assign (.dat _) rfl) ?_
  refine awp_seq ?_
  refine awp_plain hN rfl ?_
  first | refine seq_run0 (stp_move (.dat _) rfl) ?_ | refine seq_run0 (stp_move (.ptr _ _) rfl) ?_ | refine seq_run0 (stp_move (.row _ _) rfl) ?_ | refine seq_run0 (stp_move (.rptr _ _ _ _ _) rfl) ?_ | refine seq_run0 (stp_move (.mp _) rfl) ?_
  first | refine seq_run0 (stp_move (.dat _) rfl) ?_ | refine seq_run0 (stp_move (.ptr _ _) rfl) ?_ | refine seq_run0 (stp_move (.row _ _) rfl) ?_ | refine seq_run0 (stp_move (.rptr _ _ _ _ _) rfl) ?_ | refine seq_run0 (stp_move (.mp _) rfl) ?_
  refine seq_run3 (stp_impR 101 (iR) rfl ⟨.inl rfl, trivial⟩ rfl rfl) rfl rfl ?_
  first | refine seq_run0 (stp_assign (.dat _) rfl) ?_ | refine seq_run0 (stp_assign (.ptr _ _) rfl) ?_ | refine seq_run0 (stp_assign (.row _ _) rfl) ?_ | refine seq_run0 (stp_assign (.rptr _ _ _ _ _) rfl) ?_ | refine seq_run0 (stp_assign (.mp _) rfl) ?_
  refine awp_seq ?_
  refine awp_seq ?_
  refine awp_plain hN rfl ?_
  first | refine seq_run0 (stp_move (.dat _) rfl) ?_ | refine seq_run0 (stp_move (.ptr _ _) rfl) ?_ | refine seq_run0 (stp_move (.row _ _) rfl) ?_ | refine seq_run0 (stp_move (.rptr _ _ _ _ _) rfl) ?_ | refine seq_run0 (stp_move (.mp _) rfl) ?_
  first | refine seq_run0 (stp_len_lst tyU58 rfl) ?_ | refine seq_run1 (stp_len_row tyU58 rfl rfl) rfl ?_ | refine seq_run0 (stp_len_nil tyU58 rfl) ?_
  refine seq_run0 (stp_gtr rfl rfl) ?_
  first | refine seq_run0 (stp_move (.dat _) rfl) ?_ | refine seq_run0 (stp_move (.ptr _ _) rfl) ?_ | refine seq_run0 (stp_move (.row _ _) rfl) ?_ | refine seq_run0 (stp_move (.rptr _ _ _ _ _) rfl) ?_ | refine seq_run0 (stp_move (.mp _) rfl) ?_
  refine seq_split (j := 3) rfl rfl (fun h1 => ?_) (fun h1 => (by exfalso; simp at h1; rw [h1] at hx; simp at hx)) rfl
  have qh1 := h1
  try simp at qh1
  first | refine seq_g0 rfl rfl h1 (stp_move (.dat _) rfl) ?_ | refine seq_g0 rfl rfl h1 (stp_move (.ptr _ _) rfl) ?_ | refine seq_g0 rfl rfl h1 (stp_move (.row _ _) rfl) ?_ | refine seq_g0 rfl rfl h1 (stp_move (.rptr _ _ _ _ _) rfl) ?_ | refine seq_g0 rfl rfl h1 (stp_move (.mp _) rfl) ?_
  refine seq_g2 rfl rfl h1 (stp_imp (i1) rfl ⟨.inl rfl, trivial⟩ rfl) rfl ?_
  refine seq_run0 (stp_pick_t rfl h1 rfl) ?_
  refine awp_cond _ rfl (fun h2 => ?_) (fun h2 => (by exfalso; simp at h2))
  try simp at h2
  refine awp_seq ?_
  refine awp_plain hN rfl ?_
  first | refine seq_run0 (stp_move (.dat _) rfl) ?_ | refine seq_run0 (stp_move (.ptr _ _) rfl) ?_ | refine seq_run0 (stp_move (.row _ _) rfl) ?_ | refine seq_run0 (stp_move (.rptr _ _ _ _ _) rfl) ?_ | refine seq_run0 (stp_move (.mp _) rfl) ?_
  first | refine seq_run0 (stp_move (.dat _) rfl) ?_ | refine seq_run0 (stp_move (.ptr _ _) rfl) ?_ | refine seq_run0 (stp_move (.row _ _) rfl) ?_ | refine seq_run0 (stp_move (.rptr _ _ _ _ _) rfl) ?_ | refine seq_run0 (stp_move (.mp _) rfl) ?_
  first | refine seq_run0 (stp_move (.dat _) rfl) ?_ | refine seq_run0 (stp_move (.ptr _ _) rfl) ?_ | refine seq_run0 (stp_move (.row _ _) rfl) ?_ | refine seq_run0 (stp_move (.rptr _ _ _ _ _) rfl) ?_ | refine seq_run0 (stp_move (.mp _) rfl) ?_
  first | refine seq_run0 (stp_len_lst tyU58 rfl) ?_ | refine seq_run1 (stp_len_row tyU58 rfl rfl) rfl ?_ | refine seq_run0 (stp_len_nil tyU58 rfl) ?_
  refine seq_run2 (stp_imp (i2) rfl ⟨.inl rfl, trivial⟩ rfl) rfl ?_
  first | refine seq_run0 (stp_idxE tyE58 rfl rfl (by omega) (by assumption)) ?_ | refine seq_run0 (stp_idxI tyE58 rfl rfl (by omega) (by assumption)) ?_ | refine seq_run1 (stp_idxR tyE58 rfl rfl (by first | rfl | omega | simp) (by first | omega | (simp; omega))) rfl ?_ | refine seq_run1 (stp_idxRI tyE58 rfl rfl (by first | rfl | omega | simp) (by first | omega | (simp; omega))) rfl ?_
  first | refine seq_run0 (stp_assign (.dat _) rfl) ?_ | refine seq_run0 (stp_assign (.ptr _ _) rfl) ?_ | refine seq_run0 (stp_assign (.row _ _) rfl) ?_ | refine seq_run0 (stp_assign (.rptr _ _ _ _ _) rfl) ?_ | refine seq_run0 (stp_assign (.mp _) rfl) ?_
  refine awp_plain hN rfl ?_
  first | refine seq_run0 (stp_move (.dat _) rfl) ?_ | refine seq_run0 (stp_move (.ptr _ _) rfl) ?_ | refine seq_run0 (stp_move (.row _ _) rfl) ?_ | refine seq_run0 (stp_move (.rptr _ _ _ _ _) rfl) ?_ | refine seq_run0 (stp_move (.mp _) rfl) ?_
  first | refine seq_run0 (stp_move (.dat _) rfl) ?_ | refine seq_run0 (stp_move (.ptr _ _) rfl) ?_ | refine seq_run0 (stp_move (.row _ _) rfl) ?_ | refine seq_run0 (stp_move (.rptr _ _ _ _ _) rfl) ?_ | refine seq_run0 (stp_move (.mp _) rfl) ?_
  first | refine seq_run0 (stp_move (.dat _) rfl) ?_ | refine seq_run0 (stp_move (.ptr _ _) rfl) ?_ | refine seq_run0 (stp_move (.row _ _) rfl) ?_ | refine seq_run0 (stp_move (.rptr _ _ _ _ _) rfl) ?_ | refine seq_run0 (stp_move (.mp _) rfl) ?_
  first | refine seq_run0 (stp_move (.dat _) rfl) ?_ | refine seq_run0 (stp_move (.ptr _ _) rfl) ?_ | refine seq_run0 (stp_move (.row _ _) rfl) ?_ | refine seq_run0 (stp_move (.rptr _ _ _ _ _) rfl) ?_ | refine seq_run0 (stp_move (.mp _) rfl) ?_
  first | refine seq_run0 (stp_move (.dat _) rfl) ?_ | refine seq_run0 (stp_move (.ptr _ _) rfl) ?_ | refine seq_run0 (stp_move (.row _ _) rfl) ?_ | refine seq_run0 (stp_move (.rptr _ _ _ _ _) rfl) ?_ | refine seq_run0 (stp_move (.mp _) rfl) ?_
  first | refine seq_run0 (stp_move (.dat _) rfl) ?_ | refine seq_run0 (stp_move (.ptr _ _) rfl) ?_ | refine seq_run0 (stp_move (.row _ _) rfl) ?_ | refine seq_run0 (stp_move (.rptr _ _ _ _ _) rfl) ?_ | refine seq_run0 (stp_move (.mp _) rfl) ?_
  first | refine seq_run0 (stp_nilP rfl) ?_ | refine seq_run0 (stp_nilE rfl) ?_ | refine seq_run0 (stp_nilR rfl) ?_
  first | refine seq_run0 (stp_fldP tyF125_0 rfl) ?_ | refine seq_run0 (stp_fldE tyF125_0 rfl) ?_ | refine seq_run0 (stp_fldR tyF125_0 rfl) ?_
  first | refine seq_run1 (stp_load1 tyS9 rfl rfl) rfl ?_ | refine seq_run0 (stp_loadE1 tyS9 rfl (by first | assumption | rfl) rfl) ?_ | refine seq_run1 (stp_loadR1 tyS9 rfl (by first | rfl | omega | simp) (by first | assumption | exact List.getElem?_set_self (by simp; omega)) rfl) rfl ?_
  refine seq_run0 (stp_lit [[_], [_]] tyL73 ⟨rfl, .inl ⟨_, rfl, rfl, rfl⟩, rfl, rfl, .inl ⟨_, rfl, rfl, rfl⟩, rfl, trivial⟩ rfl rfl) ?_
  refine seq_run2 (stp_imp (i3) rfl ⟨.inl rfl, trivial⟩ rfl) rfl ?_
  first | refine seq_run0 (stp_move (.dat _) rfl) ?_ | refine seq_run0 (stp_move (.ptr _ _) rfl) ?_ | refine seq_run0 (stp_move (.row _ _) rfl) ?_ | refine seq_run0 (stp_move (.rptr _ _ _ _ _) rfl) ?_ | refine seq_run0 (stp_move (.mp _) rfl) ?_
  refine seq_run2 (stp_imp (i4) rfl ⟨.inl rfl, .inl rfl, trivial⟩ rfl) rfl ?_
  first | refine seq_run0 (stp_move (.dat _) rfl) ?_ | refine seq_run0 (stp_move (.ptr _ _) rfl) ?_ | refine seq_run0 (stp_move (.row _ _) rfl) ?_ | refine seq_run0 (stp_move (.rptr _ _ _ _ _) rfl) ?_ | refine seq_run0 (stp_move (.mp _) rfl) ?_
  refine seq_run2 (stp_imp (i5) rfl ⟨.inl rfl, .inl rfl, trivial⟩ rfl) rfl ?_
  first | refine seq_run0 (stp_move (.dat _) rfl) ?_ | refine seq_run0 (stp_move (.ptr _ _) rfl) ?_ | refine seq_run0 (stp_move (.row _ _) rfl) ?_ | refine seq_run0 (stp_move (.rptr _ _ _ _ _) rfl) ?_ | refine seq_run0 (stp_move (.mp _) rfl) ?_
  refine seq_run2 (stp_imp (i6) rfl ⟨.inl rfl, .inl rfl, trivial⟩ rfl) rfl ?_
  first | refine seq_run0 (stp_nilP rfl) ?_ | refine seq_run0 (stp_nilE rfl) ?_ | refine seq_run0 (stp_nilR rfl) ?_
  first | refine seq_run0 (stp_fldP tyF125_0 rfl) ?_ | refine seq_run0 (stp_fldE tyF125_0 rfl) ?_ | refine seq_run0 (stp_fldR tyF125_0 rfl) ?_
  first | refine seq_run2 (stp_store1 tyS9 rfl rfl rfl rfl) rfl ?_ | refine seq_run2 (stp_storeS tyS9 rfl rfl rfl rfl) rfl ?_ | refine seq_run2 (stp_storeR tyS9 rfl rfl rfl (by first | rfl | omega | simp) (by first | assumption | exact List.getElem?_set_self (by simp; omega)) rfl) rfl ?_
  first | refine seq_run0 (stp_nilP rfl) ?_ | refine seq_run0 (stp_nilE rfl) ?_ | refine seq_run0 (stp_nilR rfl) ?_
  first | refine seq_run0 (stp_fldP tyF125_1 rfl) ?_ | refine seq_run0 (stp_fldE tyF125_1 rfl) ?_ | refine seq_run0 (stp_fldR tyF125_1 rfl) ?_
  first | refine seq_run0 (stp_fldP tyF123_0 rfl) ?_ | refine seq_run0 (stp_fldE tyF123_0 rfl) ?_ | refine seq_run0 (stp_fldR tyF123_0 rfl) ?_
  first | refine seq_run2 (stp_store1 tyS3 rfl rfl rfl rfl) rfl ?_ | refine seq_run2 (stp_storeS tyS3 rfl rfl rfl rfl) rfl ?_ | refine seq_run2 (stp_storeR tyS3 rfl rfl rfl (by first | rfl | omega | simp) (by first | assumption | exact List.getElem?_set_self (by simp; omega)) rfl) rfl ?_
  first | refine seq_run0 (stp_nilP rfl) ?_ | refine seq_run0 (stp_nilE rfl) ?_ | refine seq_run0 (stp_nilR rfl) ?_
  first | refine seq_run0 (stp_fldP tyF125_2 rfl) ?_ | refine seq_run0 (stp_fldE tyF125_2 rfl) ?_ | refine seq_run0 (stp_fldR tyF125_2 rfl) ?_
  first | refine seq_run2 (stp_store1 tyS3 rfl rfl rfl rfl) rfl ?_ | refine seq_run2 (stp_storeS tyS3 rfl rfl rfl rfl) rfl ?_ | refine seq_run2 (stp_storeR tyS3 rfl rfl rfl (by first | rfl | omega | simp) (by first | assumption | exact List.getElem?_set_self (by simp; omega)) rfl) rfl ?_
  first | refine seq_run0 (stp_nilP rfl) ?_ | refine seq_run0 (stp_nilE rfl) ?_ | refine seq_run0 (stp_nilR rfl) ?_
  first | refine seq_run0 (stp_fldP tyF125_3 rfl) ?_ | refine seq_run0 (stp_fldE tyF125_3 rfl) ?_ | refine seq_run0 (stp_fldR tyF125_3 rfl) ?_
  first | refine seq_run2 (stp_store1 tyS3 rfl rfl rfl rfl) rfl ?_ | refine seq_run2 (stp_storeS tyS3 rfl rfl rfl rfl) rfl ?_ | refine seq_run2 (stp_storeR tyS3 rfl rfl rfl (by first | rfl | omega | simp) (by first | assumption | exact List.getElem?_set_self (by simp; omega)) rfl) rfl ?_
  refine awp_seq ?_
  refine awp_plain hN rfl ?_
  first | refine seq_run0 (stp_move (.dat _) rfl) ?_ | refine seq_run0 (stp_move (.ptr _ _) rfl) ?_ | refine seq_run0 (stp_move (.row _ _) rfl) ?_ | refine seq_run0 (stp_move (.rptr _ _ _ _ _) rfl) ?_ | refine seq_run0 (stp_move (.mp _) rfl) ?_
  first | refine seq_run0 (stp_assign (.dat _) rfl) ?_ | refine seq_run0 (stp_assign (.ptr _ _) rfl) ?_ | refine seq_run0 (stp_assign (.row _ _) rfl) ?_ | refine seq_run0 (stp_assign (.rptr _ _ _ _ _) rfl) ?_ | refine seq_run0 (stp_assign (.mp _) rfl) ?_
  refine awp_ret ?_
  exact ⟨trivial, ⟨⟨_, _, _, rfl, by simp, by rw [List.map_set]; simp [phaE]⟩, trivial⟩, rfl⟩
theorem g_rightPhases {L : List Int} (hL : ArgL L) {a : Int} (xs : List Inst) (hxl : xs.length ≤ 10) (hxk : ∀ p, p ∈ xs → p.1.length ≤ 10) (ha0 : 0 ≤ a) (ha1 : a ≤ 999997000) : ∃ (ps : List Pha) (a' : Int), (ps.length ≤ 30 ∧ ∀ p, p ∈ ps → PhR p) ∧ a ≤ a' ∧ a' ≤ a + 130 ∧ ImpR Try.prog 88 25 (St L a) [vlst (xs.map instE)] 125 5 (ps.map phaE) (St L a') := by
  obtain ⟨t, q1, q2, q3⟩ := trajS (S := fun i => OStep L (ky xs i)) (I := OInv a) (n := xs.length) (fun i hi s hI => ostep hL (by omega) (by omega) (hxk _ (nth_mem hi)) i (by omega) s hI) ([], a) ⟨by simp, by simp, by simp, by simp⟩
  obtain ⟨r1, r2, r3, r4⟩ := q3 xs.length (Nat.le_refl _)
  exact ⟨(t xs.length).1, (t xs.length).2, ⟨by omega, r4⟩, by omega, by omega, w_rightPhases xs hxl t q1 q2 q3⟩
theorem g_phases {L : List Int} (hL : ArgL L) {a : Int} (xs : List Inst) (hxl : xs.length ≤ 10) (hxk : ∀ p, p ∈ xs → p.1.length ≤ 10) (ha0 : 0 ≤ a) (ha1 : a ≤ 999996000) : ∃ (ps : List Pha) (a' : Int), (ps.length ≤ 30 ∧ ∀ p, p ∈ ps → PhR p) ∧ a ≤ a' ∧ a' ≤ a + 150 ∧ GI L 25 [vlst (xs.map instE)] (vlst (ps.map phaE)) a a' := by
  obtain ⟨ps, a1, ⟨hl, hok⟩, h1, h2, iR⟩ := g_rightPhases hL xs hxl hxk ha0 (by omega)
  rcases Nat.eq_zero_or_pos ps.length with h0 | hp
  · exact ⟨ps, _, ⟨hl, hok⟩, by omega, by omega, w_phases_e xs ps (List.eq_nil_of_length_eq_zero h0) iR⟩
  have hln : (ps.map phaE).length = ps.length := by simp
  obtain ⟨b, i1⟩ := g_flip hL (a := a1) 12 (by omega) (by omega) (by omega) (by omega)
  cases b with
  | false => exact ⟨ps, _, ⟨hl, hok⟩, by omega, by omega, w_phases_k xs ps ⟨hp, by omega⟩ iR i1⟩
  | true =>
    obtain ⟨r, r1, r2, i2⟩ := g_next hL (a := a1 + 1) ((ps.map phaE).length : Int) (by omega) (by omega) (by omega) (by omega)
    obtain ⟨ke, k1, i3⟩ := g_some hL (a := a1 + 1 + 1) [(nth ph0 ps r.toNat).k, [110, 111, 110, 101]] (by omega) (by omega) (by simp) (by simp)
    obtain ⟨x, x1, x2, i4⟩ := g_odd hL (a := a1 + 1 + 1 + 1) 0 50 (by omega) (by omega) (by omega)
    obtain ⟨y, y1, y2, i5⟩ := g_odd hL (a := a1 + 1 + 1 + 1 + 2) 100 599 (by omega) (by omega) (by omega)
    obtain ⟨z, z1, z2, i6⟩ := g_odd hL (a := a1 + 1 + 1 + 1 + 2 + 2) 0 3600000 (by omega) (by omega) (by omega)
    have hpr := hok _ (nth_mem (d := ph0) (l := ps) (k := r.toNat) (by omega))
    have hke : ke.length ≤ 10 := by
      simp only [List.mem_cons, List.not_mem_nil, or_false] at k1
      rcases k1 with rfl | rfl
      · exact hpr.1
      · simp
    refine ⟨_, _, ⟨by simpa using hl, fun p hp => ?_⟩, by omega, by omega, w_phases_m xs ps ⟨hp, by omega⟩ iR i1 r ⟨r1, by omega⟩ ke x y z i2 i3 i4 i5 i6⟩
    rcases List.mem_or_eq_of_mem_set hp with h | rfl
    · exact hok p h
    · exact ⟨hke, x1, x2, hpr.2.2.2.1, hpr.2.2.2.2.1, y1, y2, z1, z2⟩
end Go.Proofs.Ytmcegaabopcmfaa
