/- The stream of numbers: Below, Next, Range, Flip, Pick: each returns a number of its range, and turns the stream's own block alone. -/
import Derived.Test.YtmcegaabopcmfaaRows
import Derived.OpenShut
import Derived.Test.YtmcegaabopcmfaaWords
namespace Go.Proofs.Ytmcegaabopcmfaa
open Go.RowKit
set_option linter.unusedVariables false

/-- the stream at block g: it has handed out at most N numbers; its list lies below block B -/
def Strm (w : World) (B g : Nat) (N : Int) : Prop :=
  ∃ (A : Option Addr) (n c : Nat) (zs : List Int) (t : Int) (e : TypeId), Blk w g 25 #[.slice A n c, .int .i64 t] ∧ 0 ≤ t ∧ t ≤ N ∧ B ≤ g ∧
    Sl w e 1 A n (zs.map (Value.int .i64)) ∧ (0 < n → ∀ ad, A = some ad → ad.block < B) ∧ (∀ z, z ∈ zs → -9223372036854775808 ≤ z ∧ z ≤ 9223372036854775807) ∧ n ≤ 9223372036854775807

theorem Strm.mono {w : World} {B g : Nat} {N M : Int} (h : Strm w B g N) (hm : N ≤ M) : Strm w B g M := by
  obtain ⟨A, n, c, zs, t, e, h1, h2, h3, h4⟩ := h
  exact ⟨A, n, c, zs, t, e, h1, h2, by omega, h4⟩
theorem Strm.blk {w : World} {B g : Nat} {N : Int} (h : Strm w B g N) : ∃ cs, Blk w g 25 cs := by
  obtain ⟨A, n, c, zs, t, e, h1, _⟩ := h
  exact ⟨_, h1⟩
theorem Strm.keep {w w' : World} {B g : Nat} {N : Int} {S : List Nat} (h : Strm w B g N) (hk : Kp S w w') (hg : g ∉ S) (hs : ∀ k, k ∈ S → B ≤ k) : Strm w' B g N := by
  obtain ⟨A, n, c, zs, t, e, h1, h2, h3, h4, h5, h6, h7⟩ := h
  refine ⟨A, n, c, zs, t, e, hk.blk h1 hg, h2, h3, h4, h5.keepB hk ?_, h6, h7⟩
  intro hn ad ha hm
  have := h6 hn ad ha
  have := hs _ hm
  omega
theorem Strm.keep0 {w w' : World} {B g : Nat} {N : Int} (h : Strm w B g N) (hk : Kp [] w w') : Strm w' B g N := h.keep hk (by simp) (by simp)
theorem Strm.alloc {w : World} {B g : Nat} {N : Int} (h : Strm w B g N) (o : Obj) : Strm (w.alloc o) B g N := h.keep0 ((Kp.refl [] w).alloc o)

theorem Strm.lt {w : World} {B g : Nat} {N : Int} (h : Strm w B g N) : B ≤ g ∧ g < w.heap.size := by
  obtain ⟨A, n, c, zs, t, e, h1, _, _, h4, _⟩ := h
  exact ⟨h4, h1.lt⟩
/-- a block of the call's own is written -/
theorem Strm.own {w w' : World} {B g r : Nat} {N : Int} (h : Strm w B g N) (hk : Kp [r] w w') (hr : r ≠ g) (hB : B ≤ r) : Strm w' B g N :=
  h.keep hk (by simpa using fun e : g = r => hr e.symm) (by intro k hk; simp at hk; omega)
theorem Kp.own {S : List Nat} {a w w' : World} {r : Nat} (h : Kp S a w) (hk : Kp [r] w w') (hr : a.heap.size ≤ r) : Kp S a w' := h.trans hk (by intro k hk; simp at hk; subst hk; exact .inr hr)
theorem kp_set4 (w : World) (r : Nat) (a b c d : Value) : Kp [r] w ((((w.setCell ⟨r, 0, none⟩ a).setCell ⟨r, 1, none⟩ b).setCell ⟨r, 2, none⟩ c).setCell ⟨r, 3, none⟩ d) :=
  ((((Kp.refl _ _).set_ (.inl (by simp)) _).set_ (.inl (by simp)) _).set_ (.inl (by simp)) _).set_ (.inl (by simp)) _
theorem kp_set3 (w : World) (r : Nat) (a b c : Value) : Kp [r] w (((w.setCell ⟨r, 0, none⟩ a).setCell ⟨r, 1, none⟩ b).setCell ⟨r, 2, none⟩ c) :=
  (((Kp.refl _ _).set_ (.inl (by simp)) _).set_ (.inl (by simp)) _).set_ (.inl (by simp)) _
theorem kp_set2 (w : World) (r : Nat) (a b : Value) : Kp [r] w ((w.setCell ⟨r, 0, none⟩ a).setCell ⟨r, 1, none⟩ b) :=
  ((Kp.refl _ _).set_ (.inl (by simp)) _).set_ (.inl (by simp)) _

/-- the law's argument: a slice of numbers that came in -/
def Arg (w : World) (A : Option Addr) (n : Nat) : Prop :=
  ∃ (zs : List Int) (e : TypeId), Sl w e 1 A n (zs.map (Value.int .i64)) ∧ (0 < n → ∀ ad, A = some ad → ad.block < w.heap.size) ∧ (∀ z, z ∈ zs → -9223372036854775808 ≤ z ∧ z ≤ 9223372036854775807) ∧ n ≤ 9223372036854775807
theorem Arg.strm {w : World} {A : Option Addr} {n : Nat} (h : Arg w A n) (c : Nat) : Strm (w.alloc (.cells #[.slice A n c, .int .i64 0] 25)) w.heap.size w.heap.size 0 := by
  obtain ⟨zs, e, h1, h2, h3, h4⟩ := h
  exact ⟨A, n, c, zs, 0, e, Blk.new w _ _, Int.le_refl 0, Int.le_refl 0, Nat.le_refl _, h1.alloc _, h2, h3, h4⟩
theorem Arg.mk {w : World} {A : Option Addr} {n cap : Nat} {zs : List Int} (h : (A = none ∧ n = 0 ∧ cap = 0 ∧ zs = []) ∨
    ∃ x, A = some x ∧ n ≤ cap ∧ cap ≤ maxLen ∧ zs.length = cap ∧ (∀ i, i < zs.length → w.cell? (x.add i) = some (.int .i64 (zs.getD i 0))) ∧ ∀ m ∈ zs, (Lit.int .i64 m).wf = true) : Arg w A n := by
  rcases h with ⟨rfl, rfl, _, _⟩ | ⟨x, rfl, hl, hm, hz, hc, hw⟩
  · exact ⟨[], 0, ⟨by simp, fun h => absurd h (by omega)⟩, fun h => absurd h (by omega), by simp, by omega⟩
  · unfold maxLen at hm
    have hrng : ∀ z, z ∈ zs → -9223372036854775808 ≤ z ∧ z ≤ 9223372036854775807 := by
      intro z hz
      have := hw z hz
      exact bounds_i64 this
    rcases Nat.eq_zero_or_pos n with h0 | h0
    · subst h0
      exact ⟨[], 0, ⟨by simp, fun h => absurd h (by omega)⟩, fun h => absurd h (by omega), by simp, by omega⟩
    · have c0 := hc 0 (by omega)
      obtain ⟨b, off, spot⟩ := x
      have hspot : spot = none := by simpa [Addr.add] using World.cell?_spot c0
      subst hspot
      have hblk : ∃ cs e fz, w.heap[b]? = some (.cells cs e fz) := by
        simp only [Addr.add, if_true, World.cell?] at c0
        split at c0
        · rename_i cs e fz hh; exact ⟨cs, e, fz, hh⟩
        · cases c0
      obtain ⟨cs, e, fz, hb⟩ := hblk
      refine ⟨zs.take n, e, ⟨by simp; omega, fun _ => ⟨b, off, cs, fz, rfl, hb, ?_⟩⟩, ?_, fun z hz => hrng z (List.mem_of_mem_take hz), by omega⟩
      · intro j u hu
        rw [List.getElem?_map, List.getElem?_take] at hu
        by_cases hj : j < n
        · rw [if_pos hj, List.getElem?_eq_getElem (by omega)] at hu
          have cj := hc j (by omega)
          have e1 : (⟨b, off, none⟩ : Addr).add j = ⟨b, off + j, none⟩ := by
            unfold Addr.add
            by_cases hj0 : j = 0
            · subst hj0; rfl
            · rw [if_neg hj0]
          rw [e1, cell_of_row w b (off + j) cs e fz hb] at cj
          rw [cj]
          rw [← hu, List.getD_eq_getElem?_getD, List.getElem?_eq_getElem (by omega)]
          rfl
        · rw [if_neg hj] at hu; cases hu
      · intro _ ad ha
        injection ha with ha
        subst ha
        show b < w.heap.size
        rcases Nat.lt_or_ge b w.heap.size with hlt | hge
        · exact hlt
        · rw [Array.getElem?_eq_none hge] at hb; cases hb

def below (x n : Int) : Int := if n < 1 then 0 else x % n
theorem below_rng (x n : Int) (h : 1 ≤ n) : 0 ≤ below x n ∧ below x n < n := by
  unfold below
  rw [if_neg (by omega)]
  exact ⟨Int.emod_nonneg _ (by omega), Int.emod_lt_of_pos _ (by omega)⟩
theorem tmod_emod_neg (x n : Int) (hn : 1 ≤ n) (h : x.tmod n < 0) : x.tmod n + n = x % n := by
  have h1 := Int.emod_emod_of_dvd x (Int.dvd_refl n)
  rw [Int.tmod_eq_emod] at h ⊢
  have h2 := Int.emod_nonneg x (show n ≠ 0 by omega)
  have h3 := Int.emod_lt_of_pos x (show 0 < n by omega)
  split at h
  · omega
  · rename_i hc
    rw [if_neg hc]
    have : (n.natAbs : Int) = n := by omega
    omega
theorem tmod_emod_pos (x n : Int) (hn : 1 ≤ n) (h : ¬ x.tmod n < 0) : x.tmod n = x % n := by
  have h2 := Int.emod_nonneg x (show n ≠ 0 by omega)
  have h3 := Int.emod_lt_of_pos x (show 0 < n by omega)
  rw [Int.tmod_eq_emod] at h ⊢
  split at h
  · rename_i hc
    rw [if_pos hc]; omega
  · have : (n.natAbs : Int) = n := by omega
    omega

set_option maxHeartbeats 400000 in
theorem below_any (x n : Int) (w : World) (hn : 1 ≤ n) (hn2 : n ≤ 4611686018427387904) (hx : -9223372036854775808 ≤ x) (hx2 : x ≤ 9223372036854775807) :
    Calls Try.prog 76 #[.int .i64 x, .int .i64 n] w fun e w' => e = .returned (.int .i64 (below x n)) ∧ w = w' := by
  have hb := below_rng x n hn
  have hd : below x n = x % n := by unfold below; rw [if_neg (by omega)]
  have h1 := tmod_emod_neg x n hn
  have h2 := tmod_emod_pos x n hn
  have HD := Lib.hid hd
  have H1 := Lib.hid h1
  have H2 := Lib.hid h2
  clear hd h1 h2
  go_enter Try.func76, Try.ntmps76
  go_wp2
  · go_ret
    have hc : x.tmod n < 0 := by assumption
    have h3 := H1.out hc
    refine ⟨ret_int ?_, rfl⟩
    rw [h3, ← HD.out, IntWalk.wrap64_in _ ⟨by omega, by omega⟩]
  · go_ret
    have hc : 0 ≤ x.tmod n := by assumption
    refine ⟨ret_int ?_, rfl⟩
    rw [H2.out (by omega), HD.out]

def NextP (w : World) (B g : Nat) (N n : Int) (e : Ending) (w' : World) : Prop :=
  ∃ r : Int, e = .returned (.int .i64 r) ∧ 0 ≤ r ∧ r < n ∧ Strm w' B g (N + 1) ∧ Kp [g] w w'

theorem mul_bd (q len i t : Int) (h1 : 0 ≤ t) (h2 : t ≤ 1000000) (hq : q = t / len) (hl : 1 ≤ len) (h0 : 0 ≤ i) (hi : i < len) : 0 ≤ q * (7919 + i) ∧ q * (7919 + i) ≤ 8000000000 := by
  have a1 : 0 ≤ q := by rw [hq]; exact Int.ediv_nonneg h1 (by omega)
  have a2 : q ≤ t := by rw [hq]; exact Int.ediv_le_self _ h1
  have a3 : q * len ≤ t := by rw [hq]; exact Int.ediv_mul_le _ (by omega)
  have a4 : q * i ≤ q * len := Int.mul_le_mul_of_nonneg_left (by omega) a1
  have a5 : 0 ≤ q * i := Int.mul_nonneg a1 h0
  rw [Int.mul_add]
  omega

set_option maxRecDepth 100000 in
set_option maxHeartbeats 1000000 in
theorem next_any (w : World) (B g : Nat) (N n : Int) (h : Strm w B g N) (hN : N ≤ 1000000) (hn : 1 ≤ n) (hn2 : n ≤ 4611686018427387904) :
    Calls Try.prog 16 #[.pointer (some ⟨g, 0, none⟩), .int .i64 n] w (NextP w B g N n) := by
  obtain ⟨A, len, c, zs, t, e, h1, h2, h3, h4, h5, h6, h7, h8⟩ := h
  have hlt := h1.lt
  have k0 : w.cell? ⟨g, 0, none⟩ = some (.slice A len c) := h1.cell 0
  have k1 : w.cell? ⟨g, 1, none⟩ = some (.int .i64 t) := h1.cell 1
  have kf : w.frozen? ⟨g, 1, none⟩ = false := h1.frozen 1
  have hkp : Kp [g] w (w.setCell ⟨g, 1, none⟩ (.int .i64 (t + 1))) := (Kp.refl _ w).set_ (.inl (by simp)) _
  have hst : Strm (w.setCell ⟨g, 1, none⟩ (.int .i64 (t + 1))) B g (N + 1) := by
    refine ⟨A, len, c, zs, t + 1, e, h1.set_ 1 _, by omega, by omega, h4, h5.keepB hkp ?_, h6, h7, h8⟩
    intro hn ad ha hm
    have := h6 hn ad ha
    simp at hm
    omega
  have HK := Lib.hid hkp
  have HS := Lib.hid hst
  have H1 := Lib.hid h1
  have H5 := Lib.hid h5
  have H6 := Lib.hid h6
  have H7 := Lib.hid h7
  clear hkp hst h1 h5 h6 h7
  rcases Nat.eq_zero_or_pos len with hz | hz
  · subst hz
    go_enter Try.func16, Try.ntmps16
    go_wp2_with (go_at_call 76; refine (below_any _ _ _ (by omega) (by omega) (by omega) (by omega)).mono ?_; rintro e w' ⟨rfl, rfl⟩)
    go_ret
    exact ⟨_, rfl, (below_rng _ n hn).1, (below_rng _ n hn).2, HS.out, HK.out⟩
  · have hl0 : ((len : Int) == 0) = false := by simp; omega
    have hl1 : (1 : Int) ≤ (len : Int) := by omega
    have hk1 : 0 ≤ t % (len : Int) := Int.emod_nonneg _ (by omega)
    have hk2 : t % (len : Int) < (len : Int) := Int.emod_lt_of_pos _ (by omega)
    have hk3 : t % (len : Int) ≤ t := by
      by_cases hc : t < (len : Int)
      · rw [Int.emod_eq_of_lt h2 hc]; exact Int.le_refl _
      · omega
    obtain ⟨b, off, rfl, hbl, u, hu, hcell⟩ := H5.out.at_ (k := (t % (len : Int)).toNat) (by omega)
    obtain ⟨z, hz1, rfl⟩ : ∃ z, z ∈ zs ∧ u = .int .i64 z := by
      rw [List.getElem?_map] at hu
      cases hzz : zs[(t % (len : Int)).toNat]? with
      | none => rw [hzz] at hu; cases hu
      | some z => rw [hzz] at hu; injection hu with hu; exact ⟨z, List.mem_of_getElem? hzz, hu.symm⟩
    obtain ⟨hz2, hz3⟩ := H7.out z hz1
    have hbg : b ≠ g := by have := H6.out hz _ rfl; simp at this; omega
    clear hu hz1
    have hmb := mul_bd (t / (len : Int)) len (t % (len : Int)) t h2 (by omega) rfl hl1 hk1 hk2
    have hd0 : 0 ≤ t / (len : Int) := Int.ediv_nonneg h2 (by omega)
    have hd1 : t / (len : Int) ≤ t := Int.ediv_le_self _ h2
    have hw1 : IntKind.i64.wrap (t + 1 - 1) = t := by rw [IntWalk.i64_in _ (by omega)]; omega
    go_enter Try.func16, Try.ntmps16
    go_wp2_with fail
    go_quiet (fail)
    go_wp2_with fail
    generalize hw2 : (w.setCell ⟨g, 1, none⟩ (.int .i64 (t + 1))).drewN nq = w2
    have k02 : w2.cell? ⟨g, 0, none⟩ = some (.slice (some ⟨b, off, none⟩) len c) := by subst hw2; go_simp
    have k12 : w2.cell? ⟨g, 1, none⟩ = some (.int .i64 (t + 1)) := by subst hw2; go_simp
    have kc2 : w2.cell? ⟨b, off + (t % (len : Int)).toNat, none⟩ = some (.int .i64 z) := by
      subst hw2
      rw [show ((w.setCell ⟨g, 1, none⟩ (.int .i64 (t + 1))).drewN nq).cell? ⟨b, off + (t % (len : Int)).toNat, none⟩ = (w.setCell ⟨g, 1, none⟩ (.int .i64 (t + 1))).cell? ⟨b, off + (t % (len : Int)).toNat, none⟩ from rfl, World.cell?_setCell_other w _ _ _ (fun e => by injection e with e; exact hbg e.symm)]
      exact hcell
    have hst2 : Strm w2 B g (N + 1) := by subst hw2; exact HS.out.keep0 ((Kp.refl _ _).drewN nq)
    have hkp2 : Kp [g] w w2 := by subst hw2; exact HK.out.drewN nq
    clear hw2 k0 k1 hcell
    have HS2 := Lib.hid hst2
    have HK2 := Lib.hid hkp2
    clear hst2 hkp2
    go_quiet (fail)
    clear hw1
    go_wp2_with fail
    refine (below_any _ _ _ (by omega) (by omega) (by omega) (by omega)).mono ?_
    rintro e w' ⟨rfl, rfl⟩
    have hb1 := below_rng z 1073741824 (by omega)
    go_wp2_with fail
    refine (below_any _ _ _ (by omega) (by omega) (by omega) (by omega)).mono ?_
    rintro e w' ⟨rfl, rfl⟩
    go_wp2_with fail
    go_ret
    exact ⟨_, rfl, (below_rng _ n hn).1, (below_rng _ n hn).2, HS2.out.keep0 ((Kp.refl _ _).drewN _), HK2.out.drewN _⟩

set_option maxHeartbeats 400000 in
theorem range_any (w : World) (B g : Nat) (N lo hi : Int) (h : Strm w B g N) (hN : N ≤ 1000000) (hlo : -1000000000000000 ≤ lo) (hle : lo ≤ hi) (hhi : hi ≤ 1000000000000000) :
    Calls Try.prog 13 #[.pointer (some ⟨g, 0, none⟩), .int .i64 lo, .int .i64 hi] w
      fun e w' => ∃ r : Int, e = .returned (.int .i64 r) ∧ lo ≤ r ∧ r ≤ hi ∧ Strm w' B g (N + 1) ∧ Kp [g] w w' := by
  have hd : decide (hi < lo) = false := by simp; omega
  go_enter Try.func13, Try.ntmps13
  go_wp2_with fail
  refine (next_any _ B g N _ h hN (by omega) (by omega)).mono ?_
  rintro e w1 ⟨r, rfl, hr1, hr2, hS, hK⟩
  go_wp2_with fail
  go_ret
  exact ⟨_, rfl, by omega, by omega, hS, hK⟩

set_option maxHeartbeats 400000 in
theorem flip_any (w : World) (B g : Nat) (N n : Int) (h : Strm w B g N) (hN : N ≤ 1000000) (hn : 1 ≤ n) (hn2 : n ≤ 4611686018427387904) :
    Calls Try.prog 15 #[.pointer (some ⟨g, 0, none⟩), .int .i64 n] w
      fun e w' => ∃ r : Bool, e = .returned (.bool r) ∧ Strm w' B g (N + 1) ∧ Kp [g] w w' := by
  go_enter Try.func15, Try.ntmps15
  go_wp2_with fail
  refine (next_any _ B g N _ h hN (by omega) (by omega)).mono ?_
  rintro e w1 ⟨r, rfl, hr1, hr2, hS, hK⟩
  go_wp2_with fail
  go_ret
  exact ⟨_, rfl, hS, hK⟩

def PickP (w : World) (B g : Nat) (N : Int) (xs : List Int) (e : Ending) (w' : World) : Prop :=
  ∃ v : Int, v ∈ xs ∧ e = .returned (.int .i64 v) ∧ Strm w' B g (N + 1) ∧ Kp [g] w w'

set_option maxHeartbeats 400000 in
theorem pick_any (w : World) (B g : Nat) (N : Int) (A : Option Addr) (n c : Nat) (xs : List Int) (h : Strm w B g N) (hN : N ≤ 1000000) (hs : Sl w 3 1 A n (xs.map (Value.int .i64))) (hn : 1 ≤ n) (hn2 : n ≤ 1000) :
    Calls Try.prog 14 #[.pointer (some ⟨g, 0, none⟩), .slice A n c] w (PickP w B g N xs) := by
  obtain ⟨cs, hblk⟩ := h.blk
  obtain ⟨b, off, rfl, _⟩ := hs.at_ (k := 0) (by omega)
  have H := Lib.hid hblk
  have HS := Lib.hid hs
  clear hblk hs
  go_enter Try.func14, Try.ntmps14
  go_wp2_with fail
  refine (next_any _ B g N _ h hN (by omega) (by omega)).mono ?_
  rintro e w1 ⟨r, rfl, hr1, hr2, hS, hK⟩
  have hs1 := HS.out.keep1 H.out (by decide) hK
  obtain ⟨b', off', hA, _, u, hu, hc⟩ := hs1.at_ (k := r.toNat) (by omega)
  injection hA with hA
  injection hA with hA1 hA2
  subst hA1 hA2
  obtain ⟨z, hz1, rfl⟩ : ∃ z, z ∈ xs ∧ u = .int .i64 z := by
    rw [List.getElem?_map] at hu
    cases hzz : xs[r.toNat]? with
    | none => rw [hzz] at hu; cases hu
    | some z => rw [hzz] at hu; injection hu with hu; exact ⟨z, List.mem_of_getElem? hzz, hu.symm⟩
  clear hu hs1
  go_wp2_with fail
  go_ret
  exact ⟨z, hz1, rfl, hS, hK⟩

/-- Pick of numbers that are written out -/
theorem pick_lit (w : World) (B g : Nat) (N : Int) (xs : List Int) (cs : Array Value) (k n m : Nat) (h : Strm w B g N) (hN : N ≤ 1000000) (hcs : cs = (xs.map (Value.int .i64)).toArray) (hn : n = xs.length) (h1 : 1 ≤ n) (h2 : n ≤ 1000) (hk : k = w.heap.size) :
    Calls Try.prog 14 #[.pointer (some ⟨g, 0, none⟩), .slice (some ⟨k, 0, none⟩) n m] (w.alloc (.cells cs 3)) (PickP w B g N xs) := by
  subst hk
  have hb := Blk.new w 3 cs
  have hsl : Sl (w.alloc (.cells cs 3)) 3 1 (some ⟨w.heap.size, 0, none⟩) n (xs.map (Value.int .i64)) := by
    have := Sl.of_blk (n := n) (size := 1) hb (by subst hcs hn; simp)
    rw [hcs] at this ⊢
    simpa using this
  refine (pick_any _ B g N _ n m xs (h.alloc _) hN hsl h1 h2).mono ?_
  rintro e w' ⟨v, hv, he, hS, hK⟩
  exact ⟨v, hv, he, hS, ((Kp.refl _ w).alloc _).tr hK⟩

set_option maxHeartbeats 400000 in
theorem odd_any (w : World) (B g : Nat) (N lo hi : Int) (h : Strm w B g N) (hN : N ≤ 999990) (hlo : -1000000000 ≤ lo) (hle : lo ≤ hi) (hhi : hi ≤ 1000000000) :
    Calls Try.prog 55 #[.pointer (some ⟨g, 0, none⟩), .int .i64 lo, .int .i64 hi] w
      fun e w' => ∃ r : Int, e = .returned (.int .i64 r) ∧ -1099511627776 ≤ r ∧ r ≤ 1099511627776 ∧ Strm w' B g (N + 2) ∧ Kp [g] w w' := by
  go_enter Try.func55, Try.ntmps55
  go_wp2_with fail
  refine (flip_any _ B g N _ h (by omega) (by omega) (by omega)).mono ?_
  rintro e w1 ⟨r, rfl, hS, hK⟩
  cases r
  · go_wp2_with fail
    refine (range_any _ B g (N + 1) _ _ hS (by omega) (by omega) (by omega) (by omega)).mono ?_
    rintro e w2 ⟨r, rfl, hr1, hr2, hS2, hK2⟩
    go_wp2_with fail
    go_ret
    exact ⟨_, rfl, by omega, by omega, hS2.mono (by omega), hK.tr hK2⟩
  · go_wp2_with fail
    refine (pick_lit _ B g (N + 1) [lo - 1, hi + 1, lo, hi, -1099511627776, 1099511627776] _ _ _ _ hS (by omega) (by rfl) (by rfl) (by decide) (by decide) (by simp)).mono ?_
    rintro e w2 ⟨r, hr, rfl, hS2, hK2⟩
    have hr2 : -1099511627776 ≤ r ∧ r ≤ 1099511627776 := by simp at hr; omega
    clear hr
    go_wp2_with fail
    go_ret
    exact ⟨_, rfl, hr2.1, hr2.2, hS2.mono (by omega), hK.tr hK2⟩

/-- Some: one of some strings -/
def SomeP (w : World) (B g : Nat) (N : Int) (xs : List ByteArray) (e : Ending) (w' : World) : Prop :=
  ∃ v : ByteArray, v ∈ xs ∧ e = .returned (.string v) ∧ Strm w' B g (N + 1) ∧ Kp [g] w w'

set_option maxHeartbeats 400000 in
theorem some_any (w : World) (B g : Nat) (N : Int) (A : Option Addr) (n c : Nat) (xs : List ByteArray) (h : Strm w B g N) (hN : N ≤ 1000000) (hs : Sl w 9 1 A n (xs.map Value.string)) (hn : 1 ≤ n) (hn2 : n ≤ 1000) :
    Calls Try.prog 69 #[.pointer (some ⟨g, 0, none⟩), .slice A n c] w (SomeP w B g N xs) := by
  obtain ⟨cs, hblk⟩ := h.blk
  obtain ⟨b, off, rfl, _⟩ := hs.at_ (k := 0) (by omega)
  have H := Lib.hid hblk
  have HS := Lib.hid hs
  clear hblk hs
  go_enter Try.func69, Try.ntmps69
  go_wp2_with fail
  refine (next_any _ B g N _ h hN (by omega) (by omega)).mono ?_
  rintro e w1 ⟨r, rfl, hr1, hr2, hS, hK⟩
  have hs1 := HS.out.keep1 H.out (by decide) hK
  obtain ⟨b', off', hA, _, u, hu, hc⟩ := hs1.at_ (k := r.toNat) (by omega)
  injection hA with hA
  injection hA with hA1 hA2
  subst hA1 hA2
  obtain ⟨z, hz1, rfl⟩ : ∃ z, z ∈ xs ∧ u = .string z := by
    rw [List.getElem?_map] at hu
    cases hzz : xs[r.toNat]? with
    | none => rw [hzz] at hu; cases hu
    | some z => rw [hzz] at hu; injection hu with hu; exact ⟨z, List.mem_of_getElem? hzz, hu.symm⟩
  clear hu hs1
  go_wp2_with fail
  go_ret
  exact ⟨z, hz1, rfl, hS, hK⟩

/-- Some of strings that are written out -/
theorem some_lit (w : World) (B g : Nat) (N : Int) (xs : List ByteArray) (cs : Array Value) (k n m : Nat) (h : Strm w B g N) (hN : N ≤ 1000000) (hcs : cs = (xs.map Value.string).toArray) (hn : n = xs.length) (h1 : 1 ≤ n) (h2 : n ≤ 1000) (hk : k = w.heap.size) :
    Calls Try.prog 69 #[.pointer (some ⟨g, 0, none⟩), .slice (some ⟨k, 0, none⟩) n m] (w.alloc (.cells cs 9)) (SomeP w B g N xs) := by
  subst hk
  have hb := Blk.new w 9 cs
  have hsl : Sl (w.alloc (.cells cs 9)) 9 1 (some ⟨w.heap.size, 0, none⟩) n (xs.map Value.string) := by
    have := Sl.of_blk (n := n) (size := 1) hb (by subst hcs hn; simp)
    rw [hcs] at this ⊢
    simpa using this
  refine (some_any _ B g N _ n m xs (h.alloc _) hN hsl h1 h2).mono ?_
  rintro e w' ⟨v, hv, he, hS, hK⟩
  exact ⟨v, hv, he, hS, ((Kp.refl _ w).alloc _).tr hK⟩

end Go.Proofs.Ytmcegaabopcmfaa
