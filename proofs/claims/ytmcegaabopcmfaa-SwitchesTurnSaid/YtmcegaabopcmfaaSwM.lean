/- The breaker's methods do what the plain machine says. -/
import Derived.Test.YtmcegaabopcmfaaRound
import Derived.Test.YtmcegaabopcmfaaSw
namespace Go.Proofs.Ytmcegaabopcmfaa
open Go.RowKit
set_option linter.unusedVariables false

def obl (v : Value) : List Nat := match v.ownBlock with | some g => [g] | none => []
def swCells (b : Brk) (s : Sw) (v : Value) : Array Value := #[.int .i64 b.fails, .int .i64 b.window, .int .i64 b.opn, .int .i64 b.probes, .int .i64 s.now, .int .i64 s.state, .int .i64 s.opened, v, .int .i64 s.asked, .int .i64 s.good]
/-- the breaker's numbers are in their ranges -/
def BrkOk (b : Brk) : Prop := 1 ≤ b.fails ∧ b.fails ≤ 100 ∧ 1 ≤ b.window ∧ b.window ≤ 3600000 ∧ 1 ≤ b.opn ∧ b.opn ≤ 3600000 ∧ 1 ≤ b.probes ∧ b.probes ≤ 100
def SwOk (s : Sw) : Prop := 0 ≤ s.now ∧ s.now < 345686400000 ∧ 0 ≤ s.state ∧ s.state ≤ 2 ∧ 0 ≤ s.opened ∧ s.opened < 345686400000 ∧ s.bad.length ≤ 10000 ∧ 0 ≤ s.asked ∧ s.asked ≤ 10000 ∧ 0 ≤ s.good ∧ s.good ≤ 10000

theorem swTime_eq (s : Sw) (t : Int) : swTime s t = if momB t = false then 1 else if t < s.now then 7 else 0 := by
  unfold swTime momB inB tEnd
  by_cases h : 0 ≤ t ∧ t ≤ 345686399999
  · rw [if_pos (by omega)]; simp [h]
  · rw [if_neg (by omega), if_pos (by simpa using h)]

set_option maxHeartbeats 400000 in
theorem timeFault_any (g : Nat) (b : Brk) (s : Sw) (v : Value) (t : Int) (w : World) (h : Blk w g 111 (swCells b s v)) :
    Calls Try.prog 77 #[.pointer (some ⟨g, 0, none⟩), .int .i64 t] w fun e w' => e = .returned (.int .i64 (swTime s t)) ∧ w = w' := by
  have hfin := swTime_eq s t
  have k4 : w.cell? ⟨g, 4, none⟩ = some (.int .i64 s.now) := h.cell 4
  have HF := Lib.hid hfin
  clear h hfin
  cases hm : momB t
  · go_enter Try.func77, Try.ntmps77
    go_wp2_with (go_at_call 93; refine (isMoment_any _ _).mono ?_; rintro e w' ⟨rfl, rfl⟩)
    go_ret
    exact ⟨ret_int (by rw [HF.out, if_pos hm]), rfl⟩
  · by_cases hl : t < s.now
    · go_enter Try.func77, Try.ntmps77
      go_wp2_with (go_at_call 93; refine (isMoment_any _ _).mono ?_; rintro e w' ⟨rfl, rfl⟩)
      go_ret
      exact ⟨ret_int (by rw [HF.out, if_neg (by rw [hm]; decide), if_pos hl]), rfl⟩
    · go_enter Try.func77, Try.ntmps77
      go_wp2_with (go_at_call 93; refine (isMoment_any _ _).mono ?_; rintro e w' ⟨rfl, rfl⟩)
      go_ret
      exact ⟨ret_int (by rw [HF.out, if_neg (by rw [hm]; decide), if_neg (by omega)]), rfl⟩

set_option maxHeartbeats 400000 in
theorem stateAt_any (g : Nat) (b : Brk) (s : Sw) (v : Value) (t : Int) (w : World) (h : Blk w g 111 (swCells b s v)) (hb : BrkOk b) (hs : SwOk s) :
    Calls Try.prog 85 #[.pointer (some ⟨g, 0, none⟩), .int .i64 t] w fun e w' => e = .returned (.int .i64 (swStateAt b s t)) ∧ ∃ n, w' = w.drewN n := by
  have k2 : w.cell? ⟨g, 2, none⟩ = some (.int .i64 b.opn) := h.cell 2
  have k5 : w.cell? ⟨g, 5, none⟩ = some (.int .i64 s.state) := h.cell 5
  have k6 : w.cell? ⟨g, 6, none⟩ = some (.int .i64 s.opened) := h.cell 6
  obtain ⟨_, _, _, _, b5, b6, _⟩ := hb
  obtain ⟨_, _, _, _, s5, s6, _⟩ := hs
  have hw1 : IntKind.i64.wrap (s.opened + b.opn) = s.opened + b.opn := IntWalk.i64_in _ (by omega)
  have hdef : swStateAt b s t = if s.state = 1 ∧ s.opened + b.opn ≤ t then 2 else s.state := rfl
  have HD := Lib.hid hdef
  clear h hdef
  by_cases h1 : s.state = 1
  · have e1 : (s.state == 1) = true := beq_iff_eq.2 h1
    have H1 := Lib.hid h1
    clear h1
    by_cases h2 : s.opened + b.opn ≤ t
    · have e2 : decide (s.opened + b.opn ≤ t) = true := decide_eq_true h2
      go_enter Try.func85, Try.ntmps85
      go_wp2_with fail
      go_quiet (fail)
      go_wp2_with fail
      go_ret
      exact ⟨ret_int (by rw [HD.out, if_pos ⟨H1.out, h2⟩]), _, rfl⟩
    · have e2 : decide (s.opened + b.opn ≤ t) = false := decide_eq_false h2
      go_enter Try.func85, Try.ntmps85
      go_wp2_with fail
      go_quiet (fail)
      go_wp2_with fail
      go_ret
      exact ⟨ret_int (by rw [HD.out, if_neg (by omega)]), _, rfl⟩
  · have e1 : (s.state == 1) = false := beq_eq_false_iff_ne.2 h1
    go_enter Try.func85, Try.ntmps85
    go_wp2_with fail
    go_quiet (fail)
    go_wp2_with fail
    go_ret
    exact ⟨ret_int (by rw [HD.out, if_neg (fun hh => h1 hh.1)]), _, rfl⟩

set_option maxHeartbeats 400000 in
theorem pass_any (g : Nat) (b : Brk) (s : Sw) (v : Value) (t : Int) (w : World) (h : Blk w g 111 (swCells b s v)) (hb : BrkOk b) (hs : SwOk s) :
    Calls Try.prog 78 #[.pointer (some ⟨g, 0, none⟩), .int .i64 t] w
      fun e w' => e = .returned (.tuple #[]) ∧ Blk w' g 111 (swCells b (swPass b s t) v) ∧ Kp [g] w w' := by
  have hst := stateAt_any g b s v t w h hb hs
  have H := Lib.hid h
  have HST := Lib.hid hst
  clear h hst
  have hdef : swPass b s t = if swStateAt b s t = s.state then { s with now := t } else { s with state := swStateAt b s t, asked := 0, good := 0, now := t } := rfl
  have HD := Lib.hid hdef
  clear hdef
  generalize swStateAt b s t = q at *
  by_cases hq : q = s.state
  · have e1 : (q != s.state) = false := by simp [hq]
    have HQ := Lib.hid hq
    clear hq
    go_enter Try.func78, Try.ntmps78
    go_wp2_with fail
    refine HST.out.mono ?_
    rintro e w1 ⟨rfl, n, rfl⟩
    have hb1 := H.out.drewN n
    have k5 : (w.drewN n).cell? ⟨g, 5, none⟩ = some (.int .i64 s.state) := hb1.cell 5
    have k4 : (w.drewN n).cell? ⟨g, 4, none⟩ = some (.int .i64 s.now) := hb1.cell 4
    have f4 : (w.drewN n).frozen? ⟨g, 4, none⟩ = false := hb1.frozen 4
    have hb2 := hb1.set_ 4 (.int .i64 t)
    have hkp : Kp [g] w ((w.drewN n).setCell ⟨g, 4, none⟩ (.int .i64 t)) := ((Kp.refl _ _).drewN n).set_ (.inl (by simp)) _
    have HB2 := Lib.hid hb2
    clear hb1 hb2
    go_wp2_with fail
    go_outline
    go_end0
    refine ⟨rfl, ?_, hkp⟩
    rw [HD.out, if_pos HQ.out]
    exact HB2.out
  · have e1 : (q != s.state) = true := by simp [hq]
    go_enter Try.func78, Try.ntmps78
    go_wp2_with fail
    refine HST.out.mono ?_
    rintro e w1 ⟨rfl, n, rfl⟩
    have hb1 := H.out.drewN n
    have k5 : (w.drewN n).cell? ⟨g, 5, none⟩ = some (.int .i64 s.state) := hb1.cell 5
    have k4 : (w.drewN n).cell? ⟨g, 4, none⟩ = some (.int .i64 s.now) := hb1.cell 4
    have k8 : (w.drewN n).cell? ⟨g, 8, none⟩ = some (.int .i64 s.asked) := hb1.cell 8
    have k9 : (w.drewN n).cell? ⟨g, 9, none⟩ = some (.int .i64 s.good) := hb1.cell 9
    have f4 : (w.drewN n).frozen? ⟨g, 4, none⟩ = false := hb1.frozen 4
    have f5 : (w.drewN n).frozen? ⟨g, 5, none⟩ = false := hb1.frozen 5
    have f8 : (w.drewN n).frozen? ⟨g, 8, none⟩ = false := hb1.frozen 8
    have f9 : (w.drewN n).frozen? ⟨g, 9, none⟩ = false := hb1.frozen 9
    have hb2 := (((hb1.set_ 5 (.int .i64 q)).set_ 8 (.int .i64 0)).set_ 9 (.int .i64 0)).set_ 4 (.int .i64 t)
    have HB2 := Lib.hid hb2
    clear hb1 hb2
    go_wp2_with fail
    go_outline
    go_end0
    refine ⟨rfl, ?_, ?_⟩
    · rw [HD.out, if_neg hq]
      exact HB2.out
    · exact (((((Kp.refl _ _).drewN n).set_ (.inl (by simp)) _).set_ (.inl (by simp)) _).set_ (.inl (by simp)) _).set_ (.inl (by simp)) _
end Go.Proofs.Ytmcegaabopcmfaa
