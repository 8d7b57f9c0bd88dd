/- Ask, State, trip and Tell of the breaker. -/
import Derived.Test.YtmcegaabopcmfaaDel
import Derived.Deep.RegionLaw
import Derived.Deep.RegionHeld3
import Derived.Deep.DeepCutAuto
namespace Go.Proofs.Ytmcegaabopcmfaa
open Go.RowKit
set_option linter.unusedVariables false

theorem swOk_pass {b : Brk} {s : Sw} {t : Int} (hs : SwOk s) (ht : swTime s t = 0) : SwOk (swPass b s t) ∧ 0 ≤ t ∧ t < 345686400000 ∧ s.now ≤ t := by
  obtain ⟨h1, h2, h3, h4, h5, h6, h7, h8, h9, h10, h11⟩ := hs
  unfold swTime tEnd at ht
  by_cases ht1 : 0 ≤ t ∧ t < 345686400000
  · rw [if_pos ht1] at ht
    by_cases ht2 : t < s.now
    · rw [if_pos ht2] at ht; omega
    · refine ⟨?_, ht1.1, ht1.2, by omega⟩
      unfold swPass
      have : 0 ≤ swStateAt b s t ∧ swStateAt b s t ≤ 2 := by unfold swStateAt; split <;> omega
      split
      · exact ⟨ht1.1, ht1.2, h3, h4, h5, h6, h7, h8, h9, h10, h11⟩
      · exact ⟨ht1.1, ht1.2, this.1, this.2, h5, h6, h7, Int.le_refl 0, (by omega : (0 : Int) ≤ 10000), Int.le_refl 0, (by omega : (0 : Int) ≤ 10000)⟩
  · rw [if_neg ht1] at ht; omega

def AskP (w : World) (g : Nat) (b : Brk) (s : Sw) (v : Value) (t : Int) (e : Ending) (w' : World) : Prop :=
  (swTime s t ≠ 0 ∧ e = .returned (.tuple #[.bool false, .int .i64 (swTime s t)]) ∧ Blk w' g 111 (swCells b s v) ∧ Kp [g] w w') ∨
  (swTime s t = 0 ∧ e = .returned (.tuple #[.bool (swAsk b s t).1, .int .i64 0]) ∧ Blk w' g 111 (swCells b (swAsk b s t).2 v) ∧ Kp [g] w w')

set_option maxHeartbeats 1000000 in
theorem swAsk_any (g : Nat) (b : Brk) (s : Sw) (v : Value) (t : Int) (w : World) (h : Blk w g 111 (swCells b s v)) (hb : BrkOk b) (hs : SwOk s) :
    Calls Try.prog 17 #[.pointer (some ⟨g, 0, none⟩), .int .i64 t] w (AskP w g b s v t) := by
  have htf := timeFault_any g b s v t w h
  have hps := pass_any g b s v t w h hb hs
  have H := Lib.hid h
  have HT := Lib.hid htf
  have HP := Lib.hid hps
  clear h htf hps
  by_cases h0 : swTime s t = 0
  · obtain ⟨hok, ht1, ht2, ht3⟩ := swOk_pass (b := b) hs h0
    have hak := ask_pass (b := b) (s := s) (t := t) _ rfl
    rw [h0] at HT
    generalize hp : swPass b s t = p at *
    have HAK := Lib.hid hak
    have HP0 := Lib.hid h0
    obtain ⟨_, _, o3, o4, _, _, _, o8, o9, _, _⟩ := hok
    clear hp hak h0
    by_cases h2 : p.state = 2
    · have e2 : (p.state == 2) = true := beq_iff_eq.2 h2
      have H2 := Lib.hid h2
      clear h2
      by_cases hlt : p.asked < b.probes
      · have e3 : decide (p.asked < b.probes) = true := decide_eq_true hlt
        go_enter Try.func17, Try.ntmps17
        go_wp2_with fail
        refine HT.out.mono ?_
        rintro e w1 ⟨rfl, rfl⟩
        go_wp2_with fail
        refine HP.out.mono ?_
        rintro e w1 ⟨rfl, hb1, hk1⟩
        have k5 : w1.cell? ⟨g, 5, none⟩ = some (.int .i64 p.state) := hb1.cell 5
        have k8 : w1.cell? ⟨g, 8, none⟩ = some (.int .i64 p.asked) := hb1.cell 8
        have k3 : w1.cell? ⟨g, 3, none⟩ = some (.int .i64 b.probes) := hb1.cell 3
        have f8 : w1.frozen? ⟨g, 8, none⟩ = false := hb1.frozen 8
        have HB1 := Lib.hid hb1
        clear hb1
        go_wp2_with fail
        go_quiet (fail)
        go_wp2_with fail
        go_ret2
        refine .inr ⟨HP0.out, ?_, ?_, ?_⟩
        · rw [HAK.out, if_pos ⟨H2.out, hlt⟩]; rfl
        · rw [HAK.out, if_pos ⟨H2.out, hlt⟩]
          exact (HB1.out.set_ 8 (.int .i64 (p.asked + 1))).drewN _
        · exact (hk1.set_ (.inl (by simp)) _).drewN _
      · have e3 : decide (p.asked < b.probes) = false := decide_eq_false hlt
        have e4 : (p.state == 0) = false := beq_eq_false_iff_ne.2 (by have := H2.out; omega)
        go_enter Try.func17, Try.ntmps17
        go_wp2_with fail
        refine HT.out.mono ?_
        rintro e w1 ⟨rfl, rfl⟩
        go_wp2_with fail
        refine HP.out.mono ?_
        rintro e w1 ⟨rfl, hb1, hk1⟩
        have k5 : w1.cell? ⟨g, 5, none⟩ = some (.int .i64 p.state) := hb1.cell 5
        have k8 : w1.cell? ⟨g, 8, none⟩ = some (.int .i64 p.asked) := hb1.cell 8
        have k3 : w1.cell? ⟨g, 3, none⟩ = some (.int .i64 b.probes) := hb1.cell 3
        have HB1 := Lib.hid hb1
        clear hb1
        go_wp2_with fail
        go_quiet (fail)
        go_wp2_with fail
        go_ret2
        have hn : ¬ (p.state = 2 ∧ p.asked < b.probes) := by omega
        refine .inr ⟨HP0.out, ?_, ?_, ?_⟩
        · rw [HAK.out, if_neg hn]
          have : decide (p.state = 0) = false := decide_eq_false (by have := H2.out; omega)
          rw [this]; rfl
        · rw [HAK.out, if_neg hn]
          exact HB1.out.drewN _
        · exact hk1.drewN _
    · have e2 : (p.state == 2) = false := beq_eq_false_iff_ne.2 h2
      go_enter Try.func17, Try.ntmps17
      go_wp2_with fail
      refine HT.out.mono ?_
      rintro e w1 ⟨rfl, rfl⟩
      go_wp2_with fail
      refine HP.out.mono ?_
      rintro e w1 ⟨rfl, hb1, hk1⟩
      have k5 : w1.cell? ⟨g, 5, none⟩ = some (.int .i64 p.state) := hb1.cell 5
      have HB1 := Lib.hid hb1
      clear hb1
      go_wp2_with fail
      go_quiet (fail)
      go_wp2_with fail
      go_ret2
      have hn : ¬ (p.state = 2 ∧ p.asked < b.probes) := fun hh => h2 hh.1
      refine .inr ⟨HP0.out, ?_, ?_, ?_⟩
      · rw [HAK.out, if_neg hn]; rfl
      · rw [HAK.out, if_neg hn]
        exact HB1.out.drewN _
      · exact hk1.drewN _
  · have hne : (swTime s t != 0) = true := by simp [h0]
    go_enter Try.func17, Try.ntmps17
    go_wp2_with fail
    refine HT.out.mono ?_
    rintro e w1 ⟨rfl, rfl⟩
    go_wp2_with fail
    go_ret2
    exact .inl ⟨h0, rfl, H.out, Kp.refl _ _⟩

def StateP (w : World) (b : Brk) (s : Sw) (t : Int) (e : Ending) (w' : World) : Prop :=
  Kp [] w w' ∧ ((swTime s t ≠ 0 ∧ e = .returned (.tuple #[.int .i64 0, .int .i64 (swTime s t)])) ∨ (swTime s t = 0 ∧ e = .returned (.tuple #[.int .i64 (swStateAt b s t), .int .i64 0])))

set_option maxHeartbeats 1000000 in
theorem swState_any (g : Nat) (b : Brk) (s : Sw) (v : Value) (t : Int) (w : World) (h : Blk w g 111 (swCells b s v)) (hb : BrkOk b) (hs : SwOk s) :
    Calls Try.prog 21 #[.pointer (some ⟨g, 0, none⟩), .int .i64 t] w (StateP w b s t) := by
  have htf := timeFault_any g b s v t w h
  have hps := stateAt_any g b s v t w h hb hs
  have HT := Lib.hid htf
  have HP := Lib.hid hps
  clear h htf hps
  by_cases h0 : swTime s t = 0
  · rw [h0] at HT
    have HP0 := Lib.hid h0
    clear h0
    go_enter Try.func21, Try.ntmps21
    go_wp2_with fail
    refine HT.out.mono ?_
    rintro e w1 ⟨rfl, rfl⟩
    go_wp2_with fail
    refine HP.out.mono ?_
    rintro e w1 ⟨rfl, n, rfl⟩
    go_wp2_with fail
    go_ret2
    exact ⟨(Kp.refl _ _).drewN _, .inr ⟨HP0.out, rfl⟩⟩
  · have hne : (swTime s t != 0) = true := by simp [h0]
    go_enter Try.func21, Try.ntmps21
    go_wp2_with fail
    refine HT.out.mono ?_
    rintro e w1 ⟨rfl, rfl⟩
    go_wp2_with fail
    go_ret2
    exact ⟨Kp.refl _ _, .inl ⟨h0, rfl⟩⟩

set_option maxHeartbeats 1000000 in
theorem trip_any (g : Nat) (b : Brk) (s : Sw) (v : Value) (t : Int) (w : World) (h : Blk w g 111 (swCells b s v)) (A : Option Addr) (n c : Nat) (hv : v = .slice A n c) :
    Calls Try.prog 81 #[.pointer (some ⟨g, 0, none⟩), .int .i64 t] w
      fun e w' => e = .returned (.tuple #[]) ∧ Blk w' g 111 (swCells b (swTrip s t) (.slice none 0 0)) ∧ Kp [g] w w' := by
  subst hv
  have k5 : w.cell? ⟨g, 5, none⟩ = some (.int .i64 s.state) := h.cell 5
  have k6 : w.cell? ⟨g, 6, none⟩ = some (.int .i64 s.opened) := h.cell 6
  have k7 : w.cell? ⟨g, 7, none⟩ = some (.slice A n c) := h.cell 7
  have f5 : w.frozen? ⟨g, 5, none⟩ = false := h.frozen 5
  have f6 : w.frozen? ⟨g, 6, none⟩ = false := h.frozen 6
  have f7 : w.frozen? ⟨g, 7, none⟩ = false := h.frozen 7
  have H := Lib.hid h
  clear h
  go_enter Try.func81, Try.ntmps81
  go_wp2_with fail
  go_end0
  refine ⟨rfl, ((H.out.set_ 5 (.int .i64 1)).set_ 6 (.int .i64 t)).set_ 7 (.slice none 0 0), ?_⟩
  exact (((Kp.refl _ _).set_ (.inl (by simp)) _).set_ (.inl (by simp)) _).set_ (.inl (by simp)) _

theorem elemInt : Elem Try.prog 22 3 1 8 := Elem.mk (z := .int .i64 0) Try.underlying22 (by kernel_rfl) rfl (by decide)

/-- append of one new element, as a step of a region that draws -/
theorem step_app1 {P : Program} {ops : Array Oper} {o : Oper} {a : Act} {K : Act → World → Prop} {Q : Exit → Act → World → Prop} {E : Prop} (w w0 : World) (news : List Value) (hgd : o.guard = none) (s x : Operand) (t e : TypeId) (size bytes : Nat)
    (ho : o.op = .call { callee := .builtin .append, args := #[s, x], argTypes := #[t, t] }) (hE : Elem P t e size bytes)
    (base : Nat) (v : Value) (n : Nat) (xs : List Value) (hs : a.eval s = v) (hown : w0.ownsRow base e size v n xs)
    (g c : Nat) (hx : a.eval x = .slice (some ⟨g, 0, none⟩) 1 c) (hl : news.length = size) (h1 : ∀ u ∈ news, u.oneCell' = true)
    (hcell : ∀ j u, news[j]? = some u → w0.cell? ((⟨g, 0, none⟩ : Addr).add j) = some u)
    (hbytes : (n + 1) * bytes ≤ 140737488355328) (h63 : n + 1 ≤ 1000000000) (hbase : base ≤ w0.heap.size) (hw : w = w0)
    (h : ∀ gb cap w', w'.ownsRow base e size (.slice (some ⟨gb, 0, none⟩) (n + 1) cap) (n + 1) (xs ++ news) → w0.grownBy w' v.ownBlock → (some gb = v.ownBlock ∨ gb = w0.heap.size) → K (a.put o.dst (.slice (some ⟨gb, 0, none⟩) (n + 1) cap)) w') :
    if Region.wanted o (yielded ops a.tmps) = true then Oper.wp P o a w K Q else E := by
  subst hw
  have hw : Region.wanted o (yielded ops a.tmps) = true := by simp [Region.wanted, hgd]
  rw [if_pos hw]
  obtain ⟨i, z, h2, h3, h4, h5, h6, h7, h8⟩ := hE
  obtain ⟨v', w', hrun, k1, k2, _, k4⟩ := run_append_own_at (P := P) w base t o.type e i z size bytes h2 h3 h4 h5 h6 h7 h8 v n xs hown ⟨g, 0, none⟩ 1 c news (by omega) hcell h1 (by unfold maxLen; omega) hbytes hbase
  unfold Oper.wp execOp
  simp only [ho, resolve, invoke, builtin, Sem.run_bind, Sem.run_pure, Result.andThen_ok, List.map_toArray, List.map_cons, List.map_nil, hs, hx, hrun]
  rcases k1.2 with ⟨_, hz⟩ | ⟨gb, cap, cur, rfl, hr⟩
  · omega
  · exact h gb cap w' k1 k2 (by
      rcases k4 with k4 | k4
      · exact .inl k4
      · right; simpa [Value.ownBlock] using k4)

theorem own_rowN {w : World} {base gb cap n : Nat} {xs : List Int} (h : w.ownsRow base 3 1 (.slice (some ⟨gb, 0, none⟩) n cap) n (xs.map (Value.int .i64))) : RowN w gb cap n xs ∧ cap ≤ maxLen ∧ base ≤ gb := by
  rcases h with ⟨hl, ⟨hv, _⟩ | ⟨g', cap', cur, hv, hb, hh, hn, hm, hs, htk⟩⟩
  · cases hv
  · injection hv with ha _ hc
    injection ha with ha
    injection ha with ha
    subst ha hc
    have hlen : xs.length = n := by simpa using hl
    refine ⟨⟨cur, hh, by omega, hn, hlen, fun j hj => ?_⟩, hm, hb⟩
    have e1 : (cur.toList.take (n * 1))[j]? = (xs.map (Value.int .i64))[j]? := by rw [htk]
    rw [List.getElem?_take, if_pos (by omega), List.getElem?_map, List.getElem?_eq_getElem (l := xs) (by omega)] at e1
    rw [List.getD_eq_getElem?_getD, List.getElem?_eq_getElem (by omega)]
    simpa using e1
theorem rowN_own {w : World} {base gb cap n : Nat} {xs : List Int} (h : RowN w gb cap n xs) (hm : cap ≤ maxLen) (hb : base ≤ gb) : w.ownsRow base 3 1 (.slice (some ⟨gb, 0, none⟩) n cap) n (xs.map (Value.int .i64)) := by
  obtain ⟨cur, hh, hs, hn, hlen, hc⟩ := h
  refine ⟨by simp [hlen], .inr ⟨gb, cap, cur, rfl, hb, hh, hn, hm, by omega, ?_⟩⟩
  apply List.ext_getElem?
  intro j
  rw [List.getElem?_take, List.getElem?_map]
  by_cases hj : j < n
  · rw [if_pos (by omega), List.getElem?_eq_getElem (l := xs) (by omega)]
    have := hc j hj
    rw [List.getD_eq_getElem?_getD, List.getElem?_eq_getElem (by omega)] at this
    simpa using this
  · rw [if_neg (by omega), List.getElem?_eq_none (by omega)]; rfl

def TellP (w : World) (base g : Nat) (b : Brk) (s : Sw) (v : Value) (t : Int) (good : Bool) (e : Ending) (w' : World) : Prop :=
  e = .returned (.int .i64 (swTime s t)) ∧ ∃ v', Blk w' g 111 (swCells b (if swTime s t = 0 then swTell b s t good else s) v') ∧
    w'.ownsRow base 3 1 v' (if swTime s t = 0 then swTell b s t good else s).bad.length ((if swTime s t = 0 then swTell b s t good else s).bad.map (Value.int .i64)) ∧
    Kp (g :: obl v) w w' ∧ ∀ k, k ∈ obl v' → k ∈ obl v ∨ w.heap.size ≤ k

end Go.Proofs.Ytmcegaabopcmfaa
