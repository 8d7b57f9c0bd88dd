/- The fuse's methods do what its plain machine says. -/
import Derived.Test.YtmcegaabopcmfaaSwN
namespace Go.Proofs.Ytmcegaabopcmfaa
open Go.RowKit
set_option linter.unusedVariables false

def fuCells (b : Brk) (f : Fu) (v : Value) : Array Value := #[.int .i64 b.fails, .int .i64 b.window, .int .i64 b.opn, .int .i64 b.probes, .bool f.opn, .int .i64 f.since, v, .int .i64 f.asked, .int .i64 f.good, .int .i64 f.latest]
def FuOk (f : Fu) : Prop := 0 ≤ f.latest ∧ f.latest < 345686400000 ∧ 0 ≤ f.since ∧ f.since < 345686400000 ∧ f.bad.length ≤ 10000 ∧ 0 ≤ f.asked ∧ f.asked ≤ 10000 ∧ 0 ≤ f.good ∧ f.good ≤ 10000

theorem fuTime_eq (f : Fu) (t : Int) : fuTime f t = if momB t = false then 1 else if t < f.latest then 7 else 0 := by
  unfold fuTime momB inB tEnd
  by_cases h : 0 ≤ t ∧ t ≤ 345686399999
  · rw [if_pos (by omega)]; simp [h]
  · rw [if_neg (by omega), if_pos (by simpa using h)]
theorem fuTime_ok {f : Fu} {t : Int} (h : fuTime f t = 0) : 0 ≤ t ∧ t < 345686400000 ∧ f.latest ≤ t := by
  unfold fuTime tEnd at h
  by_cases h1 : 0 ≤ t ∧ t < 345686400000
  · rw [if_pos h1] at h
    by_cases h2 : t < f.latest
    · rw [if_pos h2] at h; omega
    · exact ⟨h1.1, h1.2, by omega⟩
  · rw [if_neg h1] at h; omega

set_option maxHeartbeats 400000 in
theorem fault_any (g : Nat) (b : Brk) (f : Fu) (v : Value) (t : Int) (w : World) (h : Blk w g 37 (fuCells b f v)) :
    Calls Try.prog 79 #[.pointer (some ⟨g, 0, none⟩), .int .i64 t] w fun e w' => e = .returned (.int .i64 (fuTime f t)) ∧ w = w' := by
  have hfin := fuTime_eq f t
  have k4 : w.cell? ⟨g, 9, none⟩ = some (.int .i64 f.latest) := h.cell 9
  have HF := Lib.hid hfin
  clear h hfin
  cases hm : momB t
  · go_enter Try.func79, Try.ntmps79
    go_wp2_with (go_at_call 96; refine (moment_any _ _).mono ?_; rintro e w' ⟨rfl, rfl⟩)
    go_ret
    exact ⟨ret_int (by rw [HF.out, if_pos hm]), rfl⟩
  · by_cases hl : t < f.latest
    · go_enter Try.func79, Try.ntmps79
      go_wp2_with (go_at_call 96; refine (moment_any _ _).mono ?_; rintro e w' ⟨rfl, rfl⟩)
      go_ret
      exact ⟨ret_int (by rw [HF.out, if_neg (by rw [hm]; decide), if_pos hl]), rfl⟩
    · go_enter Try.func79, Try.ntmps79
      go_wp2_with (go_at_call 96; refine (moment_any _ _).mono ?_; rintro e w' ⟨rfl, rfl⟩)
      go_ret
      exact ⟨ret_int (by rw [HF.out, if_neg (by rw [hm]; decide), if_neg (by omega)]), rfl⟩

set_option maxHeartbeats 400000 in
theorem fstate_any (g : Nat) (b : Brk) (f : Fu) (v : Value) (t : Int) (w : World) (h : Blk w g 37 (fuCells b f v)) (hb : BrkOk b) (hf : FuOk f) (ht : 0 ≤ t) (ht2 : t < 345686400000) :
    Calls Try.prog 80 #[.pointer (some ⟨g, 0, none⟩), .int .i64 t] w fun e w' => e = .returned (.int .i64 (fuState b f t)) ∧ ∃ n, w' = w.drewN n := by
  have k2 : w.cell? ⟨g, 2, none⟩ = some (.int .i64 b.opn) := h.cell 2
  have k5 : w.cell? ⟨g, 5, none⟩ = some (.int .i64 f.since) := h.cell 5
  have k4 : w.cell? ⟨g, 4, none⟩ = some (.bool f.opn) := h.cell 4
  obtain ⟨_, _, _, _, b5, b6, _⟩ := hb
  obtain ⟨_, _, s5, s6, _⟩ := hf
  have hw1 : IntKind.i64.wrap (t - f.since) = t - f.since := IntWalk.i64_in _ (by omega)
  have hdef : fuState b f t = if f.opn = false then 0 else if t - f.since < b.opn then 1 else 2 := rfl
  have HD := Lib.hid hdef
  clear h hdef
  cases ho : f.opn
  · rw [ho] at k4
    have HO := Lib.hid ho
    clear ho
    go_enter Try.func80, Try.ntmps80
    go_wp2_with fail
    go_ret
    exact ⟨ret_int (by rw [HD.out, if_pos HO.out]), 0, rfl⟩
  · rw [ho] at k4
    have HO := Lib.hid ho
    clear ho
    by_cases hl : t - f.since < b.opn
    · have e2 : decide (t - f.since < b.opn) = true := decide_eq_true hl
      go_enter Try.func80, Try.ntmps80
      go_wp2_with fail
      go_quiet (fail)
      go_wp2_with fail
      go_ret
      exact ⟨ret_int (by rw [HD.out, if_neg (by rw [HO.out]; decide), if_pos hl]), _, rfl⟩
    · have e2 : decide (t - f.since < b.opn) = false := decide_eq_false hl
      go_enter Try.func80, Try.ntmps80
      go_wp2_with fail
      go_quiet (fail)
      go_wp2_with fail
      go_ret
      exact ⟨ret_int (by rw [HD.out, if_neg (by rw [HO.out]; decide), if_neg (by omega)]), _, rfl⟩

def FAskP (w : World) (g : Nat) (b : Brk) (f : Fu) (v : Value) (t : Int) (e : Ending) (w' : World) : Prop :=
  (fuTime f t ≠ 0 ∧ e = .returned (.tuple #[.bool false, .int .i64 (fuTime f t)]) ∧ Blk w' g 37 (fuCells b f v) ∧ Kp [g] w w') ∨
  (fuTime f t = 0 ∧ e = .returned (.tuple #[.bool (fuAsk b f t).1, .int .i64 0]) ∧ Blk w' g 37 (fuCells b (fuAsk b f t).2 v) ∧ Kp [g] w w')

theorem fuState_rng (b : Brk) (f : Fu) (t : Int) : 0 ≤ fuState b f t ∧ fuState b f t ≤ 2 := by unfold fuState; split <;> (try split) <;> omega

set_option maxHeartbeats 1000000 in
theorem fuAsk_any (g : Nat) (b : Brk) (f : Fu) (v : Value) (t : Int) (w : World) (h : Blk w g 37 (fuCells b f v)) (hb : BrkOk b) (hf : FuOk f) :
    Calls Try.prog 18 #[.pointer (some ⟨g, 0, none⟩), .int .i64 t] w (FAskP w g b f v t) := by
  have htf := fault_any g b f v t w h
  have H := Lib.hid h
  have HT := Lib.hid htf
  have k9 : w.cell? ⟨g, 9, none⟩ = some (.int .i64 f.latest) := h.cell 9
  have f9 : w.frozen? ⟨g, 9, none⟩ = false := h.frozen 9
  by_cases h0 : fuTime f t = 0
  · obtain ⟨ht1, ht2, ht3⟩ := fuTime_ok h0
    have hb1 : Blk (w.setCell ⟨g, 9, none⟩ (.int .i64 t)) g 37 (fuCells b { f with latest := t } v) := h.set_ 9 (.int .i64 t)
    have hf1 : FuOk { f with latest := t } := ⟨ht1, ht2, hf.2.2⟩
    have hst := fstate_any g b { f with latest := t } v t _ hb1 hb hf1 ht1 ht2
    have hsr := fuState_rng b f t
    have hse : fuState b { f with latest := t } t = fuState b f t := rfl
    rw [hse] at hst
    have hdef : fuAsk b f t = if fuState b f t = 0 then (true, { f with latest := t }) else if fuState b f t = 1 then (false, { f with latest := t }) else (decide (f.asked + 1 ≤ b.probes), { f with latest := t, asked := f.asked + 1 }) := rfl
    rw [h0] at HT
    have HP0 := Lib.hid h0
    have HS := Lib.hid hst
    have HB1 := Lib.hid hb1
    have HD := Lib.hid hdef
    obtain ⟨_, _, _, _, _, o8, o9, _⟩ := hf
    generalize fuState b f t = q at *
    clear h htf h0 hst hse hb1 hdef hf1
    have hkp : Kp [g] w (w.setCell ⟨g, 9, none⟩ (.int .i64 t)) := (Kp.refl _ _).set_ (.inl (by simp)) _
    have hq : q = 0 ∨ q = 1 ∨ q = 2 := by omega
    rcases hq with hq | hq | hq
    · have hkk : fuAsk b f t = (true, { f with latest := t }) := by rw [HD.out, if_pos hq]
      have HKK := Lib.hid hkk
      subst hq
      clear hkk HD
      go_enter Try.func18, Try.ntmps18
      go_wp2_with fail
      refine HT.out.mono ?_
      rintro e w1 ⟨rfl, rfl⟩
      go_wp2_with fail
      refine HS.out.mono ?_
      rintro e w1 ⟨rfl, n, rfl⟩
      go_wp2_with fail
      go_ret2
      refine .inr ⟨HP0.out, ?_, ?_, hkp.drewN _⟩
      · rw [HKK.out]; rfl
      · rw [HKK.out]
        exact HB1.out.drewN _
    · have hkk : fuAsk b f t = (false, { f with latest := t }) := by rw [HD.out, if_neg (by omega), if_pos hq]
      have HKK := Lib.hid hkk
      subst hq
      clear hkk HD
      go_enter Try.func18, Try.ntmps18
      go_wp2_with fail
      refine HT.out.mono ?_
      rintro e w1 ⟨rfl, rfl⟩
      go_wp2_with fail
      refine HS.out.mono ?_
      rintro e w1 ⟨rfl, n, rfl⟩
      go_wp2_with fail
      go_ret2
      refine .inr ⟨HP0.out, ?_, ?_, hkp.drewN _⟩
      · rw [HKK.out]; rfl
      · rw [HKK.out]
        exact HB1.out.drewN _
    · have hkk : fuAsk b f t = (decide (f.asked + 1 ≤ b.probes), { f with latest := t, asked := f.asked + 1 }) := by rw [HD.out, if_neg (by omega), if_neg (by omega)]
      have HKK := Lib.hid hkk
      subst hq
      clear hkk HD
      go_enter Try.func18, Try.ntmps18
      go_wp2_with fail
      refine HT.out.mono ?_
      rintro e w1 ⟨rfl, rfl⟩
      go_wp2_with fail
      refine HS.out.mono ?_
      rintro e w1 ⟨rfl, n, rfl⟩
      generalize hw1 : (w.setCell ⟨g, 9, none⟩ (.int .i64 t)).drewN n = w1
      have hbb : Blk w1 g 37 (fuCells b { f with latest := t } v) := by subst hw1; exact HB1.out.drewN n
      have hkk : Kp [g] w w1 := by subst hw1; exact hkp.drewN n
      have k7 : w1.cell? ⟨g, 7, none⟩ = some (.int .i64 f.asked) := hbb.cell 7
      have k3 : w1.cell? ⟨g, 3, none⟩ = some (.int .i64 b.probes) := hbb.cell 3
      have f7 : w1.frozen? ⟨g, 7, none⟩ = false := hbb.frozen 7
      have HBB := Lib.hid hbb
      clear hbb hw1 hkp
      go_wp2_with fail
      go_quiet (fail)
      go_wp2_with fail
      go_ret2
      refine .inr ⟨HP0.out, ?_, ?_, (hkk.set_ (.inl (by simp)) _).drewN _⟩
      · rw [HKK.out]; rfl
      · rw [HKK.out]
        exact (HBB.out.set_ 7 (.int .i64 (f.asked + 1))).drewN _
  · have hne : (fuTime f t != 0) = true := by simp [h0]
    clear h htf
    go_enter Try.func18, Try.ntmps18
    go_wp2_with fail
    refine HT.out.mono ?_
    rintro e w1 ⟨rfl, rfl⟩
    go_wp2_with fail
    go_ret2
    exact .inl ⟨h0, rfl, H.out, Kp.refl _ _⟩

def FStateP (w : World) (b : Brk) (f : Fu) (t : Int) (e : Ending) (w' : World) : Prop :=
  Kp [] w w' ∧ ((fuTime f t ≠ 0 ∧ e = .returned (.tuple #[.int .i64 0, .int .i64 (fuTime f t)])) ∨ (fuTime f t = 0 ∧ e = .returned (.tuple #[.int .i64 (fuState b f t), .int .i64 0])))

set_option maxHeartbeats 1000000 in
theorem fuState_any (g : Nat) (b : Brk) (f : Fu) (v : Value) (t : Int) (w : World) (h : Blk w g 37 (fuCells b f v)) (hb : BrkOk b) (hf : FuOk f) :
    Calls Try.prog 22 #[.pointer (some ⟨g, 0, none⟩), .int .i64 t] w (FStateP w b f t) := by
  have htf := fault_any g b f v t w h
  have HT := Lib.hid htf
  by_cases h0 : fuTime f t = 0
  · obtain ⟨ht1, ht2, ht3⟩ := fuTime_ok h0
    have hps := fstate_any g b f v t w h hb hf ht1 ht2
    have HP := Lib.hid hps
    rw [h0] at HT
    have HP0 := Lib.hid h0
    clear h0 hps h htf
    go_enter Try.func22, Try.ntmps22
    go_wp2_with fail
    refine HT.out.mono ?_
    rintro e w1 ⟨rfl, rfl⟩
    go_wp2_with fail
    refine HP.out.mono ?_
    rintro e w1 ⟨rfl, n, rfl⟩
    go_wp2_with fail
    go_ret2
    exact ⟨(Kp.refl _ _).drewN _, .inr ⟨HP0.out, rfl⟩⟩
  · have hne : (fuTime f t != 0) = true := by simp [h0]
    clear h htf
    go_enter Try.func22, Try.ntmps22
    go_wp2_with fail
    refine HT.out.mono ?_
    rintro e w1 ⟨rfl, rfl⟩
    go_wp2_with fail
    go_ret2
    exact ⟨Kp.refl _ _, .inl ⟨h0, rfl⟩⟩

set_option maxHeartbeats 1000000 in
theorem turn_any (g : Nat) (b : Brk) (f : Fu) (o : Bool) (t : Int) (w : World) (A : Option Addr) (n c : Nat) (h : Blk w g 37 (fuCells b f (.slice A n c))) :
    Calls Try.prog 84 #[.pointer (some ⟨g, 0, none⟩), .bool o, .int .i64 t] w
      fun e w' => e = .returned (.tuple #[]) ∧ Blk w' g 37 (fuCells b (fuTurn o t) (.slice none 0 0)) ∧ Kp [g] w w' := by
  have k0 : w.cell? ⟨g, 0, none⟩ = some (.int .i64 b.fails) := h.cell 0
  have k1 : w.cell? ⟨g, 1, none⟩ = some (.int .i64 b.window) := h.cell 1
  have k2 : w.cell? ⟨g, 2, none⟩ = some (.int .i64 b.opn) := h.cell 2
  have k3 : w.cell? ⟨g, 3, none⟩ = some (.int .i64 b.probes) := h.cell 3
  have k4 : w.cell? ⟨g, 4, none⟩ = some (.bool f.opn) := h.cell 4
  have k5 : w.cell? ⟨g, 5, none⟩ = some (.int .i64 f.since) := h.cell 5
  have k6 : w.cell? ⟨g, 6, none⟩ = some (.slice A n c) := h.cell 6
  have k7 : w.cell? ⟨g, 7, none⟩ = some (.int .i64 f.asked) := h.cell 7
  have k8 : w.cell? ⟨g, 8, none⟩ = some (.int .i64 f.good) := h.cell 8
  have k9 : w.cell? ⟨g, 9, none⟩ = some (.int .i64 f.latest) := h.cell 9
  have hfz : ∀ i, w.frozen? ⟨g, i, none⟩ = false := fun i => h.frozen i
  have hfin : Blk ((((((((((w.setCell ⟨g, 0, none⟩ (.int .i64 b.fails)).setCell ⟨g, 1, none⟩ (.int .i64 b.window)).setCell ⟨g, 2, none⟩ (.int .i64 b.opn)).setCell ⟨g, 3, none⟩ (.int .i64 b.probes)).setCell ⟨g, 4, none⟩ (.bool o)).setCell ⟨g, 5, none⟩ (.int .i64 t)).setCell ⟨g, 6, none⟩ (.slice none 0 0)).setCell ⟨g, 7, none⟩ (.int .i64 0)).setCell ⟨g, 8, none⟩ (.int .i64 0)).setCell ⟨g, 9, none⟩ (.int .i64 t)) g 37 (fuCells b (fuTurn o t) (.slice none 0 0)) := by
    have h1 := (((((((((h.set_ 0 (.int .i64 b.fails)).set_ 1 (.int .i64 b.window)).set_ 2 (.int .i64 b.opn)).set_ 3 (.int .i64 b.probes)).set_ 4 (.bool o)).set_ 5 (.int .i64 t)).set_ 6 (.slice none 0 0)).set_ 7 (.int .i64 0)).set_ 8 (.int .i64 0)).set_ 9 (.int .i64 t)
    simpa [fuCells, fuTurn] using h1
  have hkp : Kp [g] w ((((((((((w.setCell ⟨g, 0, none⟩ (.int .i64 b.fails)).setCell ⟨g, 1, none⟩ (.int .i64 b.window)).setCell ⟨g, 2, none⟩ (.int .i64 b.opn)).setCell ⟨g, 3, none⟩ (.int .i64 b.probes)).setCell ⟨g, 4, none⟩ (.bool o)).setCell ⟨g, 5, none⟩ (.int .i64 t)).setCell ⟨g, 6, none⟩ (.slice none 0 0)).setCell ⟨g, 7, none⟩ (.int .i64 0)).setCell ⟨g, 8, none⟩ (.int .i64 0)).setCell ⟨g, 9, none⟩ (.int .i64 t)) :=
    ((((((((((Kp.refl _ _).set_ (.inl (by simp)) _).set_ (.inl (by simp)) _).set_ (.inl (by simp)) _).set_ (.inl (by simp)) _).set_ (.inl (by simp)) _).set_ (.inl (by simp)) _).set_ (.inl (by simp)) _).set_ (.inl (by simp)) _).set_ (.inl (by simp)) _).set_ (.inl (by simp)) _
  have H := Lib.hid hfin
  have HK := Lib.hid hkp
  clear h hfin hkp
  go_enter Try.func84, Try.ntmps84
  go_wp2_with fail
  go_end0
  exact ⟨rfl, H.out, HK.out⟩
end Go.Proofs.Ytmcegaabopcmfaa
