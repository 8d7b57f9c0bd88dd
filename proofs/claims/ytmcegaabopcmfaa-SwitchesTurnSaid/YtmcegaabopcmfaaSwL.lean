/- SwitchesTurn: a breaker and the fuse go together over every list of calls; the law returns true. -/
import Derived.Test.YtmcegaabopcmfaaSwT
import Derived.Test.YtmcegaabopcmfaaFuT
import Derived.Test.YtmcegaabopcmfaaStrm
namespace Go.Proofs.Ytmcegaabopcmfaa
open Go.RowKit
set_option linter.unusedVariables false

def brkV (b : Brk) : Value := .agg #[.int .i64 b.fails, .int .i64 b.window, .int .i64 b.opn, .int .i64 b.probes]
def BrkRng (b : Brk) : Prop := -1099511627776 ≤ b.fails ∧ b.fails ≤ 1099511627776 ∧ -1099511627776 ≤ b.window ∧ b.window ≤ 1099511627776 ∧ -1099511627776 ≤ b.opn ∧ b.opn ≤ 1099511627776 ∧ -1099511627776 ≤ b.probes ∧ b.probes ≤ 1099511627776
def brkFault (b : Brk) : Int := if outB b.fails 1 100 = true ∨ outB b.probes 1 100 = true ∨ outB b.window 1 3600000 = true ∨ outB b.opn 1 3600000 = true then 1 else 0
theorem brkOk_of {b : Brk} (h : brkFault b = 0) : BrkOk b := by
  unfold brkFault at h
  split at h
  · omega
  · rename_i hn
    simp only [not_or, Bool.not_eq_true] at hn
    obtain ⟨h1, h2, h3, h4⟩ := hn
    have := outB_f h1
    have := outB_f h2
    have := outB_f h3
    have := outB_f h4
    exact ⟨by omega, by omega, by omega, by omega, by omega, by omega, by omega, by omega⟩

def BreakerP (w : World) (B g : Nat) (N : Int) (e : Ending) (w' : World) : Prop := ∃ b : Brk, e = .returned (brkV b) ∧ BrkRng b ∧ Strm w' B g (N + 20) ∧ Kp [g] w w'

set_option maxHeartbeats 2000000 in
theorem breaker_any (w : World) (B g : Nat) (N : Int) (h : Strm w B g N) (hN : N ≤ 900000) :
    Calls Try.prog 9 #[.pointer (some ⟨g, 0, none⟩)] w (BreakerP w B g N) := by
  have hg : ¬ w.heap.size = g := by obtain ⟨cs, hb⟩ := h.blk; have := hb.lt; omega
  have hr0 := Blk.new w 27 #[.int .i64 0, .int .i64 0, .int .i64 0, .int .i64 0]
  have h0 := h.alloc (.cells #[.int .i64 0, .int .i64 0, .int .i64 0, .int .i64 0] 27)
  have hk0 : Kp [g] w (w.alloc (.cells #[.int .i64 0, .int .i64 0, .int .i64 0, .int .i64 0] 27)) := (Kp.refl _ _).alloc _
  have HR0 := Lib.hid hr0
  clear hr0
  go_enter Try.func9, Try.ntmps9
  go_wp2_with fail
  refine (pick_lit _ B g N [1, 2, 3] _ _ _ _ h0 (by omega) (by rfl) (by rfl) (by decide) (by decide) (by simp)).mono ?_
  rintro e w1 ⟨r1, hm1, rfl, hS1, hK1⟩
  go_wp2_with fail
  refine (pick_lit _ B g (N + 1) [1, 10, 30] _ _ _ _ hS1 (by omega) (by rfl) (by rfl) (by decide) (by decide) (by simp)).mono ?_
  rintro e w2 ⟨r2, hm2, rfl, hS2, hK2⟩
  go_wp2_with fail
  refine (pick_lit _ B g (N + 1 + 1) [1, 5, 20] _ _ _ _ hS2 (by omega) (by rfl) (by rfl) (by decide) (by decide) (by simp)).mono ?_
  rintro e w3 ⟨r3, hm3, rfl, hS3, hK3⟩
  go_wp2_with fail
  refine (pick_lit _ B g (N + 1 + 1 + 1) [1, 2] _ _ _ _ hS3 (by omega) (by rfl) (by rfl) (by decide) (by decide) (by simp)).mono ?_
  rintro e w4 ⟨r4, hm4, rfl, hS4, hK4⟩
  have hk4 : Kp [g] w w4 := (((hk0.tr hK1).tr hK2).tr hK3).tr hK4
  have hr4 : Blk w4 w.heap.size 27 #[.int .i64 0, .int .i64 0, .int .i64 0, .int .i64 0] := (((hK1.tr hK2).tr hK3).tr hK4).blk HR0.out (by simpa using hg)
  have b1 : 1 ≤ r1 ∧ r1 ≤ 3 := by simp at hm1; omega
  have b2 : 1 ≤ r2 ∧ r2 ≤ 30 := by simp at hm2; omega
  have b3 : 1 ≤ r3 ∧ r3 ≤ 20 := by simp at hm3; omega
  have b4 : 1 ≤ r4 ∧ r4 ≤ 2 := by simp at hm4; omega
  have hl4 : w.heap.size < w4.heap.size := hr4.lt
  have HR4 := Lib.hid hr4
  clear hm1 hm2 hm3 hm4 hr4 hS1 hS2 hS3 hK1 hK2 hK3 hK4 hk0 h0
  go_wp2_with fail
  have h5 := hS4.alloc (.cells #[.int .i64 r1, .int .i64 r2, .int .i64 r3, .int .i64 r4] 27)
  refine (flip_any _ B g (N + 1 + 1 + 1 + 1) _ h5 (by omega) (by omega) (by omega)).mono ?_
  rintro e w5 ⟨fl, rfl, hS5, hK5⟩
  have hg4 : ¬ w4.heap.size = g := by obtain ⟨cs, hb⟩ := hS4.blk; have := hb.lt; omega
  have hr5 := hK5.blk (HR4.out.alloc (.cells #[.int .i64 r1, .int .i64 r2, .int .i64 r3, .int .i64 r4] 27)) (by simpa using hg)
  have hx5 := hK5.blk (Blk.new w4 27 #[.int .i64 r1, .int .i64 r2, .int .i64 r3, .int .i64 r4]) (by simpa using hg4)
  have hk5 : Kp [g] w w5 := (hk4.alloc _).tr hK5
  have HR5 := Lib.hid hr5
  have HX5 := Lib.hid hx5
  clear hr5 hx5 h5 hK5 hS4
  cases fl
  · have c0 : w5.cell? ⟨w4.heap.size, 0, none⟩ = some (.int .i64 r1) := HX5.out.cell 0
    have c1 : w5.cell? ⟨w4.heap.size, 1, none⟩ = some (.int .i64 r2) := HX5.out.cell 1
    have c2 : w5.cell? ⟨w4.heap.size, 2, none⟩ = some (.int .i64 r3) := HX5.out.cell 2
    have c3 : w5.cell? ⟨w4.heap.size, 3, none⟩ = some (.int .i64 r4) := HX5.out.cell 3
    have d0 : w5.cell? ⟨w.heap.size, 0, none⟩ = some (.int .i64 0) := HR5.out.cell 0
    have d1 : w5.cell? ⟨w.heap.size, 1, none⟩ = some (.int .i64 0) := HR5.out.cell 1
    have d2 : w5.cell? ⟨w.heap.size, 2, none⟩ = some (.int .i64 0) := HR5.out.cell 2
    have d3 : w5.cell? ⟨w.heap.size, 3, none⟩ = some (.int .i64 0) := HR5.out.cell 3
    have df : ∀ i, w5.frozen? ⟨w.heap.size, i, none⟩ = false := fun i => HR5.out.frozen i
    go_wp2_with fail
    refine bodyPost_ret (v := brkV ⟨r1, r2, r3, r4⟩) (by simp [results, Try.results9, go_sem, brkV, d0, d1, d2, d3]) rfl ⟨⟨r1, r2, r3, r4⟩, rfl, ?_, ?_, ?_⟩
    · exact ⟨by show _ ≤ r1; omega, by show r1 ≤ _; omega, by show _ ≤ r2; omega, by show r2 ≤ _; omega, by show _ ≤ r3; omega, by show r3 ≤ _; omega, by show _ ≤ r4; omega, by show r4 ≤ _; omega⟩
    · exact (hS5.own (kp_set4 w5 w.heap.size _ _ _ _) hg (by have := h.lt; omega)).mono (by omega)
    · exact hk5.own (kp_set4 w5 w.heap.size _ _ _ _) (Nat.le_refl _)
  · go_wp2_with fail
    refine (odd_any _ B g _ _ _ hS5 (by omega) (by omega) (by omega) (by omega)).mono ?_
    rintro e w6 ⟨o1, rfl, p1, q1, hS6, hK6⟩
    go_wp2_with fail
    refine (odd_any _ B g _ _ _ hS6 (by omega) (by omega) (by omega) (by omega)).mono ?_
    rintro e w7 ⟨o2, rfl, p2, q2, hS7, hK7⟩
    go_wp2_with fail
    refine (odd_any _ B g _ _ _ hS7 (by omega) (by omega) (by omega) (by omega)).mono ?_
    rintro e w8 ⟨o3, rfl, p3, q3, hS8, hK8⟩
    go_wp2_with fail
    refine (odd_any _ B g _ _ _ hS8 (by omega) (by omega) (by omega) (by omega)).mono ?_
    rintro e w9 ⟨o4, rfl, p4, q4, hS9, hK9⟩
    have hkk := ((hK6.tr hK7).tr hK8).tr hK9
    have hr9 := hkk.blk HR5.out (by simpa using hg)
    have hx9 := hkk.blk HX5.out (by simpa using hg4)
    have hk9 := hk5.tr hkk
    have hne : ¬ w.heap.size = w4.heap.size := by omega
    have hne' : ¬ w4.heap.size = w.heap.size := by omega
    have c0 : w9.cell? ⟨w4.heap.size, 0, none⟩ = some (.int .i64 r1) := hx9.cell 0
    have c1 : w9.cell? ⟨w4.heap.size, 1, none⟩ = some (.int .i64 r2) := hx9.cell 1
    have c2 : w9.cell? ⟨w4.heap.size, 2, none⟩ = some (.int .i64 r3) := hx9.cell 2
    have c3 : w9.cell? ⟨w4.heap.size, 3, none⟩ = some (.int .i64 r4) := hx9.cell 3
    have cf : ∀ i, w9.frozen? ⟨w4.heap.size, i, none⟩ = false := fun i => hx9.frozen i
    have d0 : w9.cell? ⟨w.heap.size, 0, none⟩ = some (.int .i64 0) := hr9.cell 0
    have d1 : w9.cell? ⟨w.heap.size, 1, none⟩ = some (.int .i64 0) := hr9.cell 1
    have d2 : w9.cell? ⟨w.heap.size, 2, none⟩ = some (.int .i64 0) := hr9.cell 2
    have d3 : w9.cell? ⟨w.heap.size, 3, none⟩ = some (.int .i64 0) := hr9.cell 3
    have df : ∀ i, w9.frozen? ⟨w.heap.size, i, none⟩ = false := fun i => hr9.frozen i
    clear hr9 hx9 hkk hK6 hK7 hK8 hK9 hS5 hS6 hS7 hS8
    go_wp2_with fail
    refine bodyPost_ret (v := brkV ⟨o1, o2, o3, o4⟩) (by simp [results, Try.results9, go_sem, brkV, d0, d1, d2, d3]) rfl ⟨⟨o1, o2, o3, o4⟩, rfl, ⟨p1, q1, p2, q2, p3, q3, p4, q4⟩, ?_, ?_⟩
    · exact ((hS9.own (kp_set4 w9 w4.heap.size _ _ _ _) hg4 (by have := h.lt; omega)).own (kp_set4 _ w.heap.size _ _ _ _) hg (by have := h.lt; omega)).mono (by omega)
    · exact (hk9.own (kp_set4 w9 w4.heap.size _ _ _ _) (by omega)).own (kp_set4 _ w.heap.size _ _ _ _) (Nat.le_refl _)

set_option maxHeartbeats 1000000 in
theorem newSwitch_any (b : Brk) (w : World) :
    Calls Try.prog 10 #[brkV b] w fun e w' => Kp [] w w' ∧ ((brkFault b = 1 ∧ e = .returned (.tuple #[.pointer none, .int .i64 1])) ∨
      (brkFault b = 0 ∧ ∃ gx, w.heap.size ≤ gx ∧ e = .returned (.tuple #[.pointer (some ⟨gx, 0, none⟩), .int .i64 0]) ∧ Blk w' gx 111 (swCells b ⟨0, 0, 0, [], 0, 0⟩ (.slice none 0 0)))) := by
  unfold brkV
  have hdef : brkFault b = if outB b.fails 1 100 = true ∨ outB b.probes 1 100 = true ∨ outB b.window 1 3600000 = true ∨ outB b.opn 1 3600000 = true then 1 else 0 := rfl
  have HD := Lib.hid hdef
  clear hdef
  cases h1 : outB b.fails 1 100
  · cases h2 : outB b.probes 1 100
    · cases h3 : outB b.window 1 3600000
      · cases h4 : outB b.opn 1 3600000
        · have hfin : brkFault b = 0 := by rw [HD.out, if_neg (by simp [h1, h2, h3, h4])]
          have HF := Lib.hid hfin
          clear hfin HD
          go_enter Try.func10, Try.ntmps10
          go_wp2_with (go_at_call 73; refine (outside_any _ _ _ _).mono ?_; rintro e w' ⟨rfl, rfl⟩)
          go_ret2
          refine ⟨((Kp.refl _ _).alloc _).alloc _, .inr ⟨HF.out, w.heap.size + 1, by omega, rfl, ?_⟩⟩
          simpa [swCells] using Blk.new (w.alloc (.cells #[.int .i64 b.fails, .int .i64 b.window, .int .i64 b.opn, .int .i64 b.probes] 27)) 111 (swCells b ⟨0, 0, 0, [], 0, 0⟩ (.slice none 0 0))
        · have hfin : brkFault b = 1 := by rw [HD.out, if_pos (by simp [h4])]
          have HF := Lib.hid hfin
          clear hfin HD
          go_enter Try.func10, Try.ntmps10
          go_wp2_with (go_at_call 73; refine (outside_any _ _ _ _).mono ?_; rintro e w' ⟨rfl, rfl⟩)
          go_ret2
          exact ⟨(Kp.refl _ _).alloc _, .inl ⟨HF.out, rfl⟩⟩
      · have hfin : brkFault b = 1 := by rw [HD.out, if_pos (by simp [h3])]
        have HF := Lib.hid hfin
        clear hfin HD
        go_enter Try.func10, Try.ntmps10
        go_wp2_with (go_at_call 73; refine (outside_any _ _ _ _).mono ?_; rintro e w' ⟨rfl, rfl⟩)
        go_ret2
        exact ⟨(Kp.refl _ _).alloc _, .inl ⟨HF.out, rfl⟩⟩
    · have hfin : brkFault b = 1 := by rw [HD.out, if_pos (by simp [h2])]
      have HF := Lib.hid hfin
      clear hfin HD
      go_enter Try.func10, Try.ntmps10
      go_wp2_with (go_at_call 73; refine (outside_any _ _ _ _).mono ?_; rintro e w' ⟨rfl, rfl⟩)
      go_ret2
      exact ⟨(Kp.refl _ _).alloc _, .inl ⟨HF.out, rfl⟩⟩
  · have hfin : brkFault b = 1 := by rw [HD.out, if_pos (by simp [h1])]
    have HF := Lib.hid hfin
    clear hfin HD
    go_enter Try.func10, Try.ntmps10
    go_wp2_with (go_at_call 73; refine (outside_any _ _ _ _).mono ?_; rintro e w' ⟨rfl, rfl⟩)
    go_ret2
    exact ⟨(Kp.refl _ _).alloc _, .inl ⟨HF.out, rfl⟩⟩

set_option maxHeartbeats 1000000 in
theorem breakerFault_any (b : Brk) (w : World) :
    Calls Try.prog 11 #[brkV b] w fun e w' => Kp [] w w' ∧ e = .returned (.int .i64 (brkFault b)) := by
  unfold brkV
  have hdef : brkFault b = if outB b.fails 1 100 = true ∨ outB b.probes 1 100 = true ∨ outB b.window 1 3600000 = true ∨ outB b.opn 1 3600000 = true then 1 else 0 := rfl
  rw [out_in, out_in, out_in, out_in] at hdef
  have HD := Lib.hid hdef
  clear hdef
  cases h1 : inB b.fails 1 100
  · have hfin : brkFault b = 1 := by rw [HD.out, if_pos (by simp [h1])]
    have HF := Lib.hid hfin
    clear hfin HD
    go_enter Try.func11, Try.ntmps11
    go_wp2_with (go_at_call 74; refine (in_any _ _ _ _).mono ?_; rintro e w' ⟨rfl, rfl⟩)
    go_ret
    exact ⟨(Kp.refl _ _).alloc _, ret_int HF.out.symm⟩
  · cases h2 : inB b.probes 1 100
    · have hfin : brkFault b = 1 := by rw [HD.out, if_pos (by simp [h2])]
      have HF := Lib.hid hfin
      clear hfin HD
      go_enter Try.func11, Try.ntmps11
      go_wp2_with (go_at_call 74; refine (in_any _ _ _ _).mono ?_; rintro e w' ⟨rfl, rfl⟩)
      go_ret
      exact ⟨(Kp.refl _ _).alloc _, ret_int HF.out.symm⟩
    · cases h3 : inB b.window 1 3600000
      · have hfin : brkFault b = 1 := by rw [HD.out, if_pos (by simp [h3])]
        have HF := Lib.hid hfin
        clear hfin HD
        go_enter Try.func11, Try.ntmps11
        go_wp2_with (go_at_call 74; refine (in_any _ _ _ _).mono ?_; rintro e w' ⟨rfl, rfl⟩)
        go_ret
        exact ⟨(Kp.refl _ _).alloc _, ret_int HF.out.symm⟩
      · cases h4 : inB b.opn 1 3600000
        · have hfin : brkFault b = 1 := by rw [HD.out, if_pos (by simp [h4])]
          have HF := Lib.hid hfin
          clear hfin HD
          go_enter Try.func11, Try.ntmps11
          go_wp2_with (go_at_call 74; refine (in_any _ _ _ _).mono ?_; rintro e w' ⟨rfl, rfl⟩)
          go_ret
          exact ⟨(Kp.refl _ _).alloc _, ret_int HF.out.symm⟩
        · have hfin : brkFault b = 0 := by rw [HD.out, if_neg (by simp [h1, h2, h3, h4])]
          have HF := Lib.hid hfin
          clear hfin HD
          go_enter Try.func11, Try.ntmps11
          go_wp2_with (go_at_call 74; refine (in_any _ _ _ _).mono ?_; rintro e w' ⟨rfl, rfl⟩)
          go_ret
          exact ⟨(Kp.refl _ _).alloc _, ret_int HF.out.symm⟩
end Go.Proofs.Ytmcegaabopcmfaa
