/- SwitchesTurn: for every list of numbers the law returns true. -/
import Derived.Test.YtmcegaabopcmfaaSwL
namespace Go.Proofs.Ytmcegaabopcmfaa
open Go.RowKit
set_option linter.unusedVariables false

def SwB (k : Nat) (s : Sw) : Prop := 0 ≤ s.now ∧ s.now < 345686400000 ∧ 0 ≤ s.state ∧ s.state ≤ 2 ∧ 0 ≤ s.opened ∧ s.opened < 345686400000 ∧ s.bad.length ≤ k ∧ 0 ≤ s.asked ∧ s.asked ≤ k ∧ 0 ≤ s.good ∧ s.good ≤ k
def FuB (k : Nat) (f : Fu) : Prop := 0 ≤ f.latest ∧ f.latest < 345686400000 ∧ 0 ≤ f.since ∧ f.since < 345686400000 ∧ f.bad.length ≤ k ∧ 0 ≤ f.asked ∧ f.asked ≤ k ∧ 0 ≤ f.good ∧ f.good ≤ k
theorem SwB.ok {k : Nat} {s : Sw} (h : SwB k s) (hk : k ≤ 10000) : SwOk s := by
  obtain ⟨h1, h2, h3, h4, h5, h6, h7, h8, h9, h10, h11⟩ := h
  exact ⟨h1, h2, h3, h4, h5, h6, by omega, h8, by omega, h10, by omega⟩
theorem FuB.ok {k : Nat} {f : Fu} (h : FuB k f) (hk : k ≤ 10000) : FuOk f := by
  obtain ⟨h1, h2, h3, h4, h5, h6, h7, h8, h9⟩ := h
  exact ⟨h1, h2, h3, h4, by omega, h6, by omega, h8, by omega⟩
theorem SwB.mono {k : Nat} {s : Sw} (h : SwB k s) : SwB (k + 1) s := by
  obtain ⟨h1, h2, h3, h4, h5, h6, h7, h8, h9, h10, h11⟩ := h
  exact ⟨h1, h2, h3, h4, h5, h6, by omega, h8, by omega, h10, by omega⟩
theorem FuB.mono {k : Nat} {f : Fu} (h : FuB k f) : FuB (k + 1) f := by
  obtain ⟨h1, h2, h3, h4, h5, h6, h7, h8, h9⟩ := h
  exact ⟨h1, h2, h3, h4, by omega, h6, by omega, h8, by omega⟩
theorem swTime_ok {s : Sw} {t : Int} (h : swTime s t = 0) : 0 ≤ t ∧ t < 345686400000 ∧ s.now ≤ t := by
  unfold swTime tEnd at h
  by_cases h1 : 0 ≤ t ∧ t < 345686400000
  · rw [if_pos h1] at h
    by_cases h2 : t < s.now
    · rw [if_pos h2] at h; omega
    · exact ⟨h1.1, h1.2, by omega⟩
  · rw [if_neg h1] at h; omega
theorem swB_pass {k : Nat} {b : Brk} {s : Sw} {t : Int} (h : SwB k s) (ht : swTime s t = 0) : SwB k (swPass b s t) := by
  obtain ⟨h1, h2, h3, h4, h5, h6, h7, h8, h9, h10, h11⟩ := h
  obtain ⟨t1, t2, t3⟩ := swTime_ok ht
  have : 0 ≤ swStateAt b s t ∧ swStateAt b s t ≤ 2 := by unfold swStateAt; split <;> omega
  unfold swPass
  split
  · exact ⟨t1, t2, h3, h4, h5, h6, h7, h8, h9, h10, h11⟩
  · exact ⟨t1, t2, this.1, this.2, h5, h6, h7, Int.le_refl 0, Int.natCast_nonneg k, Int.le_refl 0, Int.natCast_nonneg k⟩
theorem swB_ask {k : Nat} {b : Brk} {s : Sw} {t : Int} (h : SwB k s) (ht : swTime s t = 0) : SwB (k + 1) (swAsk b s t).2 := by
  have hp := swB_pass (b := b) h ht
  rw [ask_pass _ rfl]
  generalize swPass b s t = p at *
  split
  · obtain ⟨h1, h2, h3, h4, h5, h6, h7, h8, h9, h10, h11⟩ := hp
    exact ⟨h1, h2, h3, h4, h5, h6, by show p.bad.length ≤ k + 1; omega, by show 0 ≤ p.asked + 1; omega, by show p.asked + 1 ≤ _; omega, h10, by show p.good ≤ _; omega⟩
  · exact hp.mono
theorem swB_tell {k : Nat} {b : Brk} {s : Sw} {t : Int} {good : Bool} (h : SwB k s) (ht : swTime s t = 0) : SwB (k + 1) (swTell b s t good) := by
  have hp := swB_pass (b := b) h ht
  obtain ⟨t1, t2, t3⟩ := swTime_ok ht
  unfold swTell
  dsimp only
  generalize swPass b s t = p at *
  obtain ⟨h1, h2, h3, h4, h5, h6, h7, h8, h9, h10, h11⟩ := hp
  have hl : ((p.bad ++ [t]).filter fun m => !decide (m ≤ t - b.window)).length ≤ k + 1 := by
    have a1 := List.length_filter_le (fun m => !decide (m ≤ t - b.window)) (p.bad ++ [t])
    have a2 : (p.bad ++ [t]).length = p.bad.length + 1 := by simp
    omega
  have hz : (0 : Nat) ≤ k + 1 := Nat.zero_le _
  split
  · exact ⟨h1, h2, by show (0 : Int) ≤ 1; omega, by show (1 : Int) ≤ 2; omega, t1, t2, hz, h8, by show p.asked ≤ _; omega, h10, by show p.good ≤ _; omega⟩
  · split
    · split
      · exact ⟨h1, h2, Int.le_refl 0, by show (0 : Int) ≤ 2; omega, h5, h6, by show p.bad.length ≤ k + 1; omega, h8, by show p.asked ≤ _; omega, by show 0 ≤ p.good + 1; omega, by show p.good + 1 ≤ _; omega⟩
      · exact ⟨h1, h2, h3, h4, h5, h6, by show p.bad.length ≤ k + 1; omega, h8, by show p.asked ≤ _; omega, by show 0 ≤ p.good + 1; omega, by show p.good + 1 ≤ _; omega⟩
    · split
      · split
        · exact ⟨h1, h2, by show (0 : Int) ≤ 1; omega, by show (1 : Int) ≤ 2; omega, t1, t2, hz, h8, by show p.asked ≤ _; omega, h10, by show p.good ≤ _; omega⟩
        · exact ⟨h1, h2, h3, h4, h5, h6, hl, h8, by show p.asked ≤ _; omega, h10, by show p.good ≤ _; omega⟩
      · exact ⟨h1, h2, h3, h4, h5, h6, by omega, h8, by omega, h10, by omega⟩
theorem fuB_turn (k : Nat) (o : Bool) {t : Int} (t1 : 0 ≤ t) (t2 : t < 345686400000) : FuB k (fuTurn o t) := ⟨t1, t2, t1, t2, Nat.zero_le _, Int.le_refl 0, Int.natCast_nonneg k, Int.le_refl 0, Int.natCast_nonneg k⟩
theorem fuB_ask {k : Nat} {b : Brk} {f : Fu} {t : Int} (h : FuB k f) (ht : fuTime f t = 0) : FuB (k + 1) (fuAsk b f t).2 := by
  obtain ⟨h1, h2, h3, h4, h5, h6, h7, h8, h9⟩ := h
  obtain ⟨t1, t2, t3⟩ := fuTime_ok ht
  unfold fuAsk
  split
  · exact ⟨t1, t2, h3, h4, by show f.bad.length ≤ k + 1; omega, h6, by show f.asked ≤ _; omega, h8, by show f.good ≤ _; omega⟩
  · split
    · exact ⟨t1, t2, h3, h4, by show f.bad.length ≤ k + 1; omega, h6, by show f.asked ≤ _; omega, h8, by show f.good ≤ _; omega⟩
    · exact ⟨t1, t2, h3, h4, by show f.bad.length ≤ k + 1; omega, by show 0 ≤ f.asked + 1; omega, by show f.asked + 1 ≤ _; omega, h8, by show f.good ≤ _; omega⟩
theorem fuB_tell {k : Nat} {b : Brk} {f : Fu} {t : Int} {good : Bool} (h : FuB k f) (ht : fuTime f t = 0) : FuB (k + 1) (fuTell b f t good) := by
  obtain ⟨h1, h2, h3, h4, h5, h6, h7, h8, h9⟩ := h
  obtain ⟨t1, t2, t3⟩ := fuTime_ok ht
  unfold fuTell
  split
  · split
    · exact fuB_turn _ _ t1 t2
    · exact ⟨t1, t2, h3, h4, by show (f.bad ++ [t]).length ≤ k + 1; rw [List.length_append]; simp; omega, h6, by show f.asked ≤ _; omega, h8, by show f.good ≤ _; omega⟩
  · split
    · exact fuB_turn _ _ t1 t2
    · split
      · split
        · exact fuB_turn _ _ t1 t2
        · exact ⟨t1, t2, h3, h4, by show f.bad.length ≤ k + 1; omega, h6, by show f.asked ≤ _; omega, by show 0 ≤ f.good + 1; omega, by show f.good + 1 ≤ _; omega⟩
      · exact ⟨t1, t2, h3, h4, by show f.bad.length ≤ k + 1; omega, h6, by show f.asked ≤ _; omega, h8, by show f.good ≤ _; omega⟩

/-- the law's memory -/
structure Inv (w0 : World) (g gx gy : Nat) (b : Brk) (N : Int) (s : Sw) (f : Fu) (v u : Value) (w : World) : Prop where
  strm : Strm w w0.heap.size g N
  sw : Blk w gx 111 (swCells b s v)
  fu : Blk w gy 37 (fuCells b f u)
  ov : w.ownsRow w0.heap.size 3 1 v s.bad.length (s.bad.map (Value.int .i64))
  ou : w.ownsRow w0.heap.size 3 1 u f.bad.length (f.bad.map (Value.int .i64))
  dis : ∀ q, q ∈ obl v → q ∉ obl u
  kp : Kp [] w0 w
  lx : w0.heap.size ≤ gx
  ly : w0.heap.size ≤ gy

theorem obl_own {w : World} {base n : Nat} {e : TypeId} {size : Nat} {v : Value} {xs : List Value} (h : w.ownsRow base e size v n xs) {q : Nat} (hq : q ∈ obl v) : base ≤ q ∧ ∃ cs, Blk w q e cs := by
  rcases h.2 with ⟨hv, _⟩ | ⟨g', cap, cur, hv, hb, hh, _⟩
  · rw [hv] at hq; simp [obl, Value.ownBlock] at hq
  · rw [hv] at hq
    have : q = g' := by simpa [obl, Value.ownBlock] using hq
    subst this
    exact ⟨hb, cur, hh⟩
theorem obl_mem {v : Value} {g : Nat} (h : v.ownBlock = some g) : g ∈ obl v := by unfold obl; rw [h]; simp

section
variable {w0 : World} {g gx gy : Nat} {b : Brk} {N N' : Int} {s s' : Sw} {f f' : Fu} {v v' u u' : Value} {w w' : World}
theorem Inv.strm_ (h : Inv w0 g gx gy b N s f v u w) (hs : Strm w' w0.heap.size g N') (hk : Kp [g] w w') : Inv w0 g gx gy b N' s f v u w' := by
  obtain ⟨cs, hb⟩ := h.strm.blk
  refine ⟨hs, hk.blk h.sw (by simpa using h.sw.ne_ hb (by decide)), hk.blk h.fu (by simpa using h.fu.ne_ hb (by decide)), own_kp1 h.ov hb (by decide) hk, own_kp1 h.ou hb (by decide) hk, h.dis, h.kp.trans hk (by intro q hq; simp at hq; subst hq; exact .inr h.strm.lt.1), h.lx, h.ly⟩
theorem Inv.sw_ (h : Inv w0 g gx gy b N s f v u w) (hb : Blk w' gx 111 (swCells b s' v')) (ho : w'.ownsRow w0.heap.size 3 1 v' s'.bad.length (s'.bad.map (Value.int .i64)))
    (hk : Kp (gx :: obl v) w w') (hv : ∀ q, q ∈ obl v' → q ∈ obl v ∨ w.heap.size ≤ q) : Inv w0 g gx gy b N s' f v' u w' := by
  obtain ⟨cs, hbg⟩ := h.strm.blk
  have hin : ∀ q, q ∈ gx :: obl v → w0.heap.size ≤ q := by
    intro q hq
    rcases List.mem_cons.1 hq with rfl | hq
    · exact h.lx
    · exact (obl_own h.ov hq).1
  have hty : ∀ q t cs', Blk w q t cs' → t ≠ 111 → t ≠ 3 → q ∉ gx :: obl v := by
    intro q t cs' hq h1 h2 hm
    rcases List.mem_cons.1 hm with rfl | hm
    · exact hq.ne_ h.sw h1 rfl
    · obtain ⟨_, cs2, hc2⟩ := obl_own h.ov hm
      exact hq.ne_ hc2 h2 rfl
  refine ⟨h.strm.keep hk (hty g _ _ hbg (by decide) (by decide)) hin, hb, hk.blk h.fu (hty gy _ _ h.fu (by decide) (by decide)), ho, own_kp h.ou hk ?_, ?_, h.kp.trans hk (fun q hq => .inr (hin q hq)), h.lx, h.ly⟩
  · intro q hq hu
    rcases List.mem_cons.1 hq with rfl | hq
    · exact own_blk_ne h.ou h.sw (by decide) hu.symm
    · exact h.dis q hq (obl_mem hu)
  · intro q hq hu
    rcases hv q hq with hh | hh
    · exact h.dis q hh hu
    · obtain ⟨_, cs2, hc2⟩ := obl_own h.ou hu
      have := hc2.lt
      omega
theorem Inv.fu_ (h : Inv w0 g gx gy b N s f v u w) (hb : Blk w' gy 37 (fuCells b f' u')) (ho : w'.ownsRow w0.heap.size 3 1 u' f'.bad.length (f'.bad.map (Value.int .i64)))
    (hk : Kp (gy :: obl u) w w') (hv : ∀ q, q ∈ obl u' → q ∈ obl u ∨ w.heap.size ≤ q) : Inv w0 g gx gy b N s f' v u' w' := by
  obtain ⟨cs, hbg⟩ := h.strm.blk
  have hin : ∀ q, q ∈ gy :: obl u → w0.heap.size ≤ q := by
    intro q hq
    rcases List.mem_cons.1 hq with rfl | hq
    · exact h.ly
    · exact (obl_own h.ou hq).1
  have hty : ∀ q t cs', Blk w q t cs' → t ≠ 37 → t ≠ 3 → q ∉ gy :: obl u := by
    intro q t cs' hq h1 h2 hm
    rcases List.mem_cons.1 hm with rfl | hm
    · exact hq.ne_ h.fu h1 rfl
    · obtain ⟨_, cs2, hc2⟩ := obl_own h.ou hm
      exact hq.ne_ hc2 h2 rfl
  refine ⟨h.strm.keep hk (hty g _ _ hbg (by decide) (by decide)) hin, hk.blk h.sw (hty gx _ _ h.sw (by decide) (by decide)), hb, own_kp h.ov hk ?_, ho, ?_, h.kp.trans hk (fun q hq => .inr (hin q hq)), h.lx, h.ly⟩
  · intro q hq hu
    rcases List.mem_cons.1 hq with rfl | hq
    · exact own_blk_ne h.ov h.fu (by decide) hu.symm
    · exact h.dis q (obl_mem hu) hq
  · intro q hq hu
    rcases hv q hu with hh | hh
    · exact h.dis q hq hh
    · obtain ⟨_, cs2, hc2⟩ := obl_own h.ov hq
      have := hc2.lt
      omega
theorem Inv.kp0 (h : Inv w0 g gx gy b N s f v u w) (hk : Kp [] w w') : Inv w0 g gx gy b N s f v u w' :=
  ⟨h.strm.keep0 hk, hk.blk0 h.sw, hk.blk0 h.fu, own_kp0 h.ov hk, own_kp0 h.ou hk, h.dis, h.kp.tr hk, h.lx, h.ly⟩
theorem Inv.mono (h : Inv w0 g gx gy b N s f v u w) (hN : N ≤ N') : Inv w0 g gx gy b N' s f v u w := { h with strm := h.strm.mono hN }
end

/-- the loop's relation -/
def LawRel (w0 : World) (g gx gy : Nat) (b : Brk) (n : Nat) (vat vi : Value) (wr : World) : Prop :=
  ∃ (k : Nat) (at_ : Int) (s : Sw) (f : Fu) (v u : Value), k ≤ n ∧ vi = .int .i64 (k : Int) ∧ vat = .int .i64 at_ ∧ 0 ≤ at_ ∧ at_ ≤ 20 * k ∧
    Inv w0 g gx gy b (100 + 10 * k) s f v u wr ∧ Rel b s f ∧ SwB k s ∧ FuB k f

theorem ask_eq {b : Brk} {s : Sw} {f : Fu} (h : Rel b s f) (hb : BrkOk b) {t : Int} (ht : swTime s t = 0) : (swAsk b s t).1 = (fuAsk b f t).1 ∧ Rel b (swAsk b s t).2 (fuAsk b f t).2 :=
  rel_ask h hb.2.2.2.2.2.2.1 hb.2.2.2.2.1 t (swTime_ok ht).2.2
theorem tell_rel {b : Brk} {s : Sw} {f : Fu} (h : Rel b s f) (hb : BrkOk b) {t : Int} (good : Bool) (ht : swTime s t = 0) : Rel b (swTell b s t good) (fuTell b f t good) :=
  rel_tell h hb.2.2.2.2.2.2.1 hb.2.2.2.2.1 t good (swTime_ok ht).2.2

/-- behind the choice of a moment -/
def LawMid (w0 : World) (g gx gy : Nat) (b : Brk) (N : Int) (s : Sw) (f : Fu) (v u : Value) (t : Value) (wx : World) : Prop :=
  ∃ t' : Int, t = .int .i64 t' ∧ Inv w0 g gx gy b N s f v u wx

set_option maxRecDepth 100000 in
set_option maxHeartbeats 4000000 in
theorem switches_any (A : Option Addr) (n c : Nat) (w : World) (harg : Arg w A n) :
    Calls Try.prog 3 #[.slice A n c] w fun e w' => e = .returned (.bool true) ∧ Below w.heap.size w w' := by
  have hst0 := harg.strm c
  have hk0 : Kp [] w (w.alloc (.cells #[.slice A n c, .int .i64 0] 25)) := (Kp.refl _ _).alloc _
  have HS0 := Lib.hid hst0
  clear hst0 harg
  go_enter Try.func3, Try.ntmps3
  go_wp2_with fail
  refine (breaker_any _ w.heap.size w.heap.size 0 HS0.out (by omega)).mono ?_
  rintro e w1 ⟨b, rfl, hrng, hS1, hK1⟩
  have hkw1 : Kp [] w w1 := hk0.trans hK1 (by intro q hq; simp at hq; subst hq; exact .inr (Nat.le_refl _))
  unfold brkV
  go_wp2_with fail
  have hS2 := hS1.alloc (.cells #[.int .i64 b.fails, .int .i64 b.window, .int .i64 b.opn, .int .i64 b.probes] 27)
  have hb2 := Blk.new w1 27 #[.int .i64 b.fails, .int .i64 b.window, .int .i64 b.opn, .int .i64 b.probes]
  have hk2 := hkw1.alloc (.cells #[.int .i64 b.fails, .int .i64 b.window, .int .i64 b.opn, .int .i64 b.probes] 27)
  have hnw := newSwitch_any b (w1.alloc (.cells #[.int .i64 b.fails, .int .i64 b.window, .int .i64 b.opn, .int .i64 b.probes] 27))
  unfold brkV at hnw
  refine hnw.mono ?_
  clear hnw
  rintro e w3 ⟨hK3, hcase⟩
  have hb3 := hK3.blk0 hb2
  have hS3 := hS2.keep0 hK3
  have hk3 := hk2.tr hK3
  have c0 : w3.cell? ⟨w1.heap.size, 0, none⟩ = some (.int .i64 b.fails) := hb3.cell 0
  have c1 : w3.cell? ⟨w1.heap.size, 1, none⟩ = some (.int .i64 b.window) := hb3.cell 1
  have c2 : w3.cell? ⟨w1.heap.size, 2, none⟩ = some (.int .i64 b.opn) := hb3.cell 2
  have c3 : w3.cell? ⟨w1.heap.size, 3, none⟩ = some (.int .i64 b.probes) := hb3.cell 3
  have hbf := breakerFault_any b w3
  unfold brkV at hbf
  have HBF := Lib.hid hbf
  have HB3 := Lib.hid hb3
  clear hbf hb2 hb3 hS1 hS2 hK1 hk2 HS0 hk0
  rcases hcase with ⟨hf1, rfl⟩ | ⟨hf0, gx, hgx, rfl, hbx⟩
  · rw [hf1] at HBF
    go_wp2_with fail
    refine HBF.out.mono ?_
    rintro e w4 ⟨hK4, rfl⟩
    go_wp2_with fail
    refine (balanced_any _).mono ?_
    rintro e w5 ⟨rfl, hK5⟩
    go_wp2_with fail
    go_ret
    exact ⟨rfl, ((hk3.tr hK4).tr hK5).to_below⟩
  · rw [hf0] at HBF
    have hbo := brkOk_of hf0
    have HBX := Lib.hid hbx
    clear hbx hf0
    go_wp2_with fail
    refine HBF.out.mono ?_
    rintro e w4 ⟨hK4, rfl⟩
    have hb4 := hK4.blk0 HB3.out
    have c40 : w4.cell? ⟨w1.heap.size, 0, none⟩ = some (.int .i64 b.fails) := hb4.cell 0
    have c41 : w4.cell? ⟨w1.heap.size, 1, none⟩ = some (.int .i64 b.window) := hb4.cell 1
    have c42 : w4.cell? ⟨w1.heap.size, 2, none⟩ = some (.int .i64 b.opn) := hb4.cell 2
    have c43 : w4.cell? ⟨w1.heap.size, 3, none⟩ = some (.int .i64 b.probes) := hb4.cell 3
    have hS4 := hS3.keep0 hK4
    have hk4 := hk3.tr hK4
    have hbx4 := hK4.blk0 HBX.out
    have hgx0 : w.heap.size ≤ gx := by have := hkw1.size; simp at hgx; omega
    have HB4 := Lib.hid hb4
    have HBX4 := Lib.hid hbx4
    clear hb4 hbx4 c0 c1 c2 c3 HB3 HBX hS3 hk3 hgx
    go_wp2_with fail
    have hinv0 : Inv w w.heap.size gx w4.heap.size b (0 + 20) ⟨0, 0, 0, [], 0, 0⟩ ⟨false, 0, [], 0, 0, 0⟩ (.slice none 0 0) (.slice none 0 0) (w4.alloc (.cells (fuCells b ⟨false, 0, [], 0, 0, 0⟩ (.slice none 0 0)) 37)) :=
      ⟨hS4.alloc _, HBX4.out.alloc _, Blk.new w4 _ _, own_nil, own_nil, by simp [obl, Value.ownBlock], hk4.alloc _, hgx0, hk4.size⟩
    have HI0 := Lib.hid hinv0
    clear hinv0
    refine (range_any _ w.heap.size w.heap.size 20 1 20 (hS4.alloc _) (by omega) (by omega) (by omega) (by omega)).mono ?_
    rintro e w5 ⟨r, rfl, hr1, hr2, hS5, hK5⟩
    obtain ⟨m, rfl⟩ := Int.eq_ofNat_of_zero_le (show 0 ≤ r by omega)
    have hinv5 := HI0.out.strm_ hS5 hK5
    have hrel0 : LawRel w w.heap.size gx w4.heap.size b m (.int .i64 0) (.int .i64 0) w5 :=
      ⟨0, 0, _, _, _, _, Nat.zero_le _, rfl, rfl, Int.le_refl 0, by omega, hinv5.mono (by omega), ⟨rfl, .inl ⟨rfl, rfl, rfl, 0, Int.le_refl 0, rfl⟩⟩,
        ⟨Int.le_refl 0, by decide, Int.le_refl 0, by decide, Int.le_refl 0, by decide, Nat.le_refl 0, Int.le_refl 0, Int.le_refl 0, Int.le_refl 0, Int.le_refl 0⟩,
        ⟨Int.le_refl 0, by decide, Int.le_refl 0, by decide, Nat.le_refl 0, Int.le_refl 0, Int.le_refl 0, Int.le_refl 0, Int.le_refl 0⟩⟩
    have HR0 := Lib.hid hrel0
    generalize w4.heap.size = gy at *
    clear hrel0 hinv5 HI0 hS4 hk4 HBX4 HB4 c40 c41 c42 c43 hK5 hS5 hK4 HBF hK3
    go_wp2_with fail
    go_loopw [9, 56] (fun vat vi wr => LawRel w w.heap.size gx gy b m vat vi wr) (fun _ vi _ => m - (intOf vi).toNat)
    case atStart => exact HR0.out
    case round =>
      obtain ⟨k, at_, s, f, v, u, hk, rfl, rfl, ha1, ha2, hinv, hrl, hsb, hfb⟩ := hrel
      have HI := Lib.hid hinv
      have HRL := Lib.hid hrl
      have HSB := Lib.hid hsb
      have HFB := Lib.hid hfb
      clear hinv hrl hsb hfb HR0
      by_cases hlt : k < m
      · go_wp2_with fail
        refine (pick_lit _ w.heap.size w.heap.size _ [0, 1, 2, 5, 10, 20] _ _ _ _ HI.out.strm (by omega) (by rfl) (by rfl) (by decide) (by decide) (by simp)).mono ?_
        rintro e w6 ⟨d, hd, rfl, hS6, hK6⟩
        have hd2 : 0 ≤ d ∧ d ≤ 20 := by simp at hd; omega
        have hI6 := HI.out.strm_ hS6 hK6
        have HI6 := Lib.hid hI6
        clear hd hI6 HI hK6 hS6
        go_wp2_with fail
        refine (flip_any _ w.heap.size w.heap.size _ _ HI6.out.strm (by omega) (by omega) (by omega)).mono ?_
        rintro e w7 ⟨fl, rfl, hS7, hK7⟩
        have hI7 := HI6.out.strm_ hS7 hK7
        have HI7 := Lib.hid hI7
        clear hI7 HI6 hK7 hS7
        obtain ⟨a2, ha2e⟩ : ∃ a2, at_ + d = a2 := ⟨_, rfl⟩
        rw [ha2e]
        have hb1 : 0 ≤ a2 := by omega
        have hb2 : a2 ≤ 20 * k + 20 := by omega
        clear ha2e
        go_upto_if 65 with fail
        go_cut [10] (fun t10 wx => LawMid w w.heap.size gx gy b (100 + 10 * k + 3) s f v u t10 wx)
        case first =>
          cases fl
          · go_wp2_with fail
            go_meet
            exact ⟨_, rfl, HI7.out.mono (by omega)⟩
          · go_wp2_with fail
            refine (pick_lit _ w.heap.size w.heap.size _ [0, -1, 345686400000, a2 - 1] _ _ _ _ HI7.out.strm (by omega) (by rfl) (by rfl) (by decide) (by decide) (by simp)).mono ?_
            rintro e w8 ⟨t', ht', rfl, hS8, hK8⟩
            have hI8 := HI7.out.strm_ hS8 hK8
            have HI8 := Lib.hid hI8
            clear ht' hI8 hS8 hK8
            go_wp2_with fail
            go_meet
            exact ⟨_, rfl, HI8.out.mono (by omega)⟩
        case rest =>
          obtain ⟨t, rfl, hI8⟩ := hcut
          have HI8 := Lib.hid hI8
          clear hI8 HI7
          go_wp2_with fail
          refine (next_any _ w.heap.size w.heap.size _ _ HI8.out.strm (by omega) (by omega) (by omega)).mono ?_
          rintro e w9 ⟨r, rfl, hn1, hn2, hS9, hK9⟩
          have hI9 := HI8.out.strm_ hS9 hK9
          have HI9 := Lib.hid hI9
          clear hI9 HI8 hS9 hK9
          have hsok := HSB.out.ok (by omega)
          have hfok := HFB.out.ok (by omega)
          have htime := rel_time HRL.out t
          have HTM := Lib.hid htime
          clear htime
          have hr : r = 0 ∨ r = 1 ∨ r = 2 ∨ r = 3 := by omega
          rcases hr with rfl | rfl | rfl | rfl
          · go_wp2_with fail
            refine (swAsk_any gx b s v t _ HI9.out.sw hbo hsok).mono ?_
            rintro e wa (⟨hne, rfl, hba, hka⟩ | ⟨heq, rfl, hba, hka⟩)
            · have hIa := HI9.out.sw_ hba (own_kp HI9.out.ov hka (by intro q hq; simp at hq; subst hq; exact fun e => own_blk_ne HI9.out.ov HI9.out.sw (by decide) e.symm)) (hka.mono (by intro q hq; simp at hq; subst hq; simp)) (fun q hq => .inl hq)
              have HIa := Lib.hid hIa
              have HNE := Lib.hid hne
              clear hIa hba hka hne
              go_wp2_with fail
              refine (fuAsk_any gy b f u t _ HIa.out.fu hbo hfok).mono ?_
              rintro e wb (⟨hne, rfl, hbb, hkb⟩ | ⟨heq, rfl, hbb, hkb⟩)
              · have hIb := HIa.out.fu_ hbb (own_kp HIa.out.ou hkb (by intro q hq; simp at hq; subst hq; exact fun e => own_blk_ne HIa.out.ou HIa.out.fu (by decide) e.symm)) (hkb.mono (by intro q hq; simp at hq; subst hq; simp)) (fun q hq => .inl hq)
                have HIb := Lib.hid hIb
                have hq1 : (swTime s t != fuTime f t) = false := by rw [HTM.out]; simp
                clear hIb hbb hkb hne
                go_wp2_with fail
                exact ⟨⟨k + 1, a2, s, f, v, u, by omega, by go_num, rfl, hb1, by omega, HIb.out.mono (by omega), HRL.out, HSB.out.mono, HFB.out.mono⟩, by simp [intOf]; omega⟩
              · exact absurd (HTM.out.trans heq) HNE.out
            · obtain ⟨he1, hrl1⟩ := ask_eq HRL.out hbo heq
              have hsb1 := swB_ask (b := b) HSB.out heq
              have hbad : (swAsk b s t).2.bad = s.bad := by
                rw [ask_pass _ rfl]
                have : (swPass b s t).bad = s.bad := by unfold swPass; split <;> rfl
                split <;> exact this
              have hIa := HI9.out.sw_ hba (by rw [hbad]; exact own_kp HI9.out.ov hka (by intro q hq; simp at hq; subst hq; exact fun e => own_blk_ne HI9.out.ov HI9.out.sw (by decide) e.symm)) (hka.mono (by intro q hq; simp at hq; subst hq; simp)) (fun q hq => .inl hq)
              have HIa := Lib.hid hIa
              have HEQ := Lib.hid heq
              have HE1 := Lib.hid he1
              have HRL1 := Lib.hid hrl1
              have HSB1 := Lib.hid hsb1
              clear hIa hba hka heq he1 hrl1 hsb1 hbad
              generalize swAsk b s t = ra at *
              go_wp2_with fail
              refine (fuAsk_any gy b f u t _ HIa.out.fu hbo hfok).mono ?_
              rintro e wb (⟨hne, rfl, hbb, hkb⟩ | ⟨heq, rfl, hbb, hkb⟩)
              · exact absurd (HTM.out.symm.trans HEQ.out) hne
              · have hfb1 := fuB_ask (b := b) HFB.out heq
                have hbad : (fuAsk b f t).2.bad = f.bad := by unfold fuAsk; split <;> (try split) <;> rfl
                have hIb := HIa.out.fu_ hbb (by rw [hbad]; exact own_kp HIa.out.ou hkb (by intro q hq; simp at hq; subst hq; exact fun e => own_blk_ne HIa.out.ou HIa.out.fu (by decide) e.symm)) (hkb.mono (by intro q hq; simp at hq; subst hq; simp)) (fun q hq => .inl hq)
                have HIb := Lib.hid hIb
                have HFB1 := Lib.hid hfb1
                clear hIb hbb hkb heq hfb1 hbad
                generalize fuAsk b f t = rb at *
                obtain ⟨ra1, ra2⟩ := ra
                obtain ⟨rb1, rb2⟩ := rb
                have he2 : ra1 = rb1 := HE1.out
                subst he2
                have hq1 : (ra1 != ra1) = false := by simp
                go_wp2_with fail
                exact ⟨⟨k + 1, a2, ra2, rb2, v, u, by omega, by go_num, rfl, hb1, by omega, HIb.out.mono (by omega), HRL1.out, HSB1.out, HFB1.out⟩, by simp [intOf]; omega⟩
          · go_wp2_with fail
            refine (flip_any _ w.heap.size w.heap.size _ _ HI9.out.strm (by omega) (by omega) (by omega)).mono ?_
            rintro e w10 ⟨good, rfl, hS10, hK10⟩
            have hI10 := HI9.out.strm_ hS10 hK10
            have HI10 := Lib.hid hI10
            clear hI10 HI9 hS10 hK10
            go_wp2_with fail
            refine (swTell_any w.heap.size gx b s v t good _ HI10.out.sw hbo hsok HI10.out.ov HI10.out.kp.size).mono ?_
            rintro e wa ⟨rfl, v', hba, hoa, hka, hva⟩
            have hIa := HI10.out.sw_ hba hoa hka hva
            have HIa := Lib.hid hIa
            clear hIa hba hoa hka hva
            go_wp2_with fail
            refine (ftell_any w.heap.size gy b f u t good _ HIa.out.fu hbo hfok HIa.out.ou HIa.out.kp.size).mono ?_
            rintro e wb ⟨rfl, u', hbb, hob, hkb, hvb⟩
            have hIb := HIa.out.fu_ hbb hob hkb hvb
            have HIb := Lib.hid hIb
            have hq1 : (swTime s t != fuTime f t) = false := by rw [HTM.out]; simp
            clear hIb hbb hob hkb hvb HIa
            go_wp2_with fail
            refine ⟨⟨k + 1, a2, _, _, v', u', by omega, by go_num, rfl, hb1, by omega, HIb.out.mono (by omega), ?_, ?_, ?_⟩, by simp [intOf]; omega⟩
            · by_cases h0 : swTime s t = 0
              · rw [if_pos h0, if_pos (HTM.out.symm.trans h0)]
                exact tell_rel HRL.out hbo good h0
              · rw [if_neg h0, if_neg (fun e => h0 (HTM.out.trans e))]
                exact HRL.out
            · by_cases h0 : swTime s t = 0
              · rw [if_pos h0]; exact swB_tell HSB.out h0
              · rw [if_neg h0]; exact HSB.out.mono
            · by_cases h0 : fuTime f t = 0
              · rw [if_pos h0]; exact fuB_tell HFB.out h0
              · rw [if_neg h0]; exact HFB.out.mono
          · go_wp2_with fail
            refine (flip_any _ w.heap.size w.heap.size _ _ HI9.out.strm (by omega) (by omega) (by omega)).mono ?_
            rintro e w10 ⟨good, rfl, hS10, hK10⟩
            have hI10 := HI9.out.strm_ hS10 hK10
            have HI10 := Lib.hid hI10
            clear hI10 HI9 hS10 hK10
            go_wp2_with fail
            refine (swTell_any w.heap.size gx b s v t good _ HI10.out.sw hbo hsok HI10.out.ov HI10.out.kp.size).mono ?_
            rintro e wa ⟨rfl, v', hba, hoa, hka, hva⟩
            have hIa := HI10.out.sw_ hba hoa hka hva
            have HIa := Lib.hid hIa
            clear hIa hba hoa hka hva
            go_wp2_with fail
            refine (ftell_any w.heap.size gy b f u t good _ HIa.out.fu hbo hfok HIa.out.ou HIa.out.kp.size).mono ?_
            rintro e wb ⟨rfl, u', hbb, hob, hkb, hvb⟩
            have hIb := HIa.out.fu_ hbb hob hkb hvb
            have HIb := Lib.hid hIb
            have hq1 : (swTime s t != fuTime f t) = false := by rw [HTM.out]; simp
            clear hIb hbb hob hkb hvb HIa
            go_wp2_with fail
            refine ⟨⟨k + 1, a2, _, _, v', u', by omega, by go_num, rfl, hb1, by omega, HIb.out.mono (by omega), ?_, ?_, ?_⟩, by simp [intOf]; omega⟩
            · by_cases h0 : swTime s t = 0
              · rw [if_pos h0, if_pos (HTM.out.symm.trans h0)]
                exact tell_rel HRL.out hbo good h0
              · rw [if_neg h0, if_neg (fun e => h0 (HTM.out.trans e))]
                exact HRL.out
            · by_cases h0 : swTime s t = 0
              · rw [if_pos h0]; exact swB_tell HSB.out h0
              · rw [if_neg h0]; exact HSB.out.mono
            · by_cases h0 : fuTime f t = 0
              · rw [if_pos h0]; exact fuB_tell HFB.out h0
              · rw [if_neg h0]; exact HFB.out.mono
          · go_wp2_with fail
            refine (swState_any gx b s v t _ HI9.out.sw hbo hsok).mono ?_
            rintro e wa ⟨hka, hcs⟩
            have hIa := HI9.out.kp0 hka
            have HIa := Lib.hid hIa
            clear hIa hka
            rcases hcs with ⟨hne, rfl⟩ | ⟨heq, rfl⟩
            · have HNE := Lib.hid hne
              clear hne
              go_wp2_with fail
              refine (fuState_any gy b f u t _ HIa.out.fu hbo hfok).mono ?_
              rintro e wb ⟨hkb, hcs⟩
              rcases hcs with ⟨hne, rfl⟩ | ⟨heq, rfl⟩
              · have hIb := HIa.out.kp0 hkb
                have HIb := Lib.hid hIb
                have hq1 : (swTime s t != fuTime f t) = false := by rw [HTM.out]; simp
                clear hIb hkb hne
                go_wp2_with fail
                exact ⟨⟨k + 1, a2, s, f, v, u, by omega, by go_num, rfl, hb1, by omega, HIb.out.mono (by omega), HRL.out, HSB.out.mono, HFB.out.mono⟩, by simp [intOf]; omega⟩
              · exact absurd (HTM.out.trans heq) HNE.out
            · have HEQ := Lib.hid heq
              have hse := rel_state HRL.out t (swTime_ok heq).2.2
              have HSE := Lib.hid hse
              clear heq hse
              go_wp2_with fail
              refine (fuState_any gy b f u t _ HIa.out.fu hbo hfok).mono ?_
              rintro e wb ⟨hkb, hcs⟩
              rcases hcs with ⟨hne, rfl⟩ | ⟨heq, rfl⟩
              · exact absurd (HTM.out.symm.trans HEQ.out) hne
              · have hIb := HIa.out.kp0 hkb
                have HIb := Lib.hid hIb
                have hq1 : (swStateAt b s t != fuState b f t) = false := by rw [HSE.out]; simp
                clear hIb hkb heq
                go_wp2_with fail
                exact ⟨⟨k + 1, a2, s, f, v, u, by omega, by go_num, rfl, hb1, by omega, HIb.out.mono (by omega), HRL.out, HSB.out.mono, HFB.out.mono⟩, by simp [intOf]; omega⟩
      · obtain rfl : k = m := by omega
        go_wp2_with fail
        refine (balanced_any _).mono ?_
        rintro e w6 ⟨rfl, hK6⟩
        go_wp2_with fail
        go_ret
        exact ⟨rfl, (HI.out.kp.tr hK6).to_below⟩
end Go.Proofs.Ytmcegaabopcmfaa
