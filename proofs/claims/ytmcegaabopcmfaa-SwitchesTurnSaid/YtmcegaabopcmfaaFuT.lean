/- Tell of the fuse. -/
import Derived.Test.YtmcegaabopcmfaaFuM
namespace Go.Proofs.Ytmcegaabopcmfaa
open Go.RowKit
set_option linter.unusedVariables false

/-- append(v, x), its slice written out -/
theorem app1r {P : Program} {ops : Array Oper} {rest : List Oper} {o : Oper} {a : Act} {Q : Exit → Act → World → Prop} (w : World) (news : List Value) (hgd : o.guard = none) (s x : Operand) (t e : TypeId) (size bytes : Nat)
    (ho : o.op = .call { callee := .builtin .append, args := #[s, x], argTypes := #[t, t] }) (hE : Elem P t e size bytes)
    (base : Nat) (v : Value) (n : Nat) (xs : List Value) (hs : a.eval s = v) (hown : w.ownsRow base e size v n xs)
    (g c : Nat) (hx : a.eval x = .slice (some ⟨g, 0, none⟩) 1 c) (hg : g = w.heap.size) (hl : news.length = size) (h1 : ∀ u ∈ news, u.oneCell' = true)
    (hbytes : (n + 1) * bytes ≤ 140737488355328) (h63 : n + 1 ≤ 1000000000) (hbase : base ≤ w.heap.size) (cs : Array Value) (hcs : cs = news.toArray)
    (h : ∀ gb cap w', w'.ownsRow base e size (.slice (some ⟨gb, 0, none⟩) (n + 1) cap) (n + 1) (xs ++ news) → w.grownBy w' v.ownBlock → (some gb = v.ownBlock ∨ gb = w.heap.size + 1) → wpList P ops Q rest (a.put o.dst (.slice (some ⟨gb, 0, none⟩) (n + 1) cap)) w') :
    wpList P ops Q (o :: rest) a (w.alloc (.cells cs e)) :=
  app1 w news hgd s x t e size bytes ho hE base v n xs hs hown g c hx hg hl h1 hbytes h63 hbase cs hcs (fun v' w' k1 k2 k4 => by
    rcases k1.2 with ⟨_, hz⟩ | ⟨gb, cap, cur, rfl, hr⟩
    · omega
    · exact h gb cap w' k1 k2 (by
        rcases k4 with k4 | k4
        · exact .inl k4
        · right; simpa [Value.ownBlock] using k4))

def FTellP (w : World) (base g : Nat) (b : Brk) (f f' : Fu) (v : Value) (er : Int) (e : Ending) (w' : World) : Prop :=
  e = .returned (.int .i64 er) ∧ ∃ v', Blk w' g 37 (fuCells b f' v') ∧ w'.ownsRow base 3 1 v' f'.bad.length (f'.bad.map (Value.int .i64)) ∧ Kp (g :: obl v) w w' ∧ ∀ k, k ∈ obl v' → k ∈ obl v ∨ w.heap.size ≤ k

def cntUp (l : List Int) (c : Int) (k : Nat) : Nat := ((l.take k).filter fun m => decide (c < m)).length
theorem cntUp_succ (l : List Int) (c : Int) (k : Nat) (hk : k < l.length) : cntUp l c (k + 1) = cntUp l c k + if c < l.getD k 0 then 1 else 0 := by
  have e1 : l.getD k 0 = l[k] := by rw [List.getD_eq_getElem?_getD, List.getElem?_eq_getElem hk]; rfl
  unfold cntUp
  rw [List.take_succ_eq_append_getElem hk, List.filter_append, List.length_append, e1]
  by_cases h : c < l[k] <;> simp [h]
theorem cntUp_le (l : List Int) (c : Int) (k : Nat) : cntUp l c k ≤ k := by
  unfold cntUp
  have := List.length_filter_le (fun m => decide (c < m)) (l.take k)
  have := List.length_take_le k l
  omega

set_option maxRecDepth 100000 in
set_option maxHeartbeats 2000000 in
theorem ftell_bad (base g : Nat) (b : Brk) (f : Fu) (v : Value) (t : Int) (w : World) (h : Blk w g 37 (fuCells b f v)) (hb : BrkOk b) (hf : FuOk f)
    (hown : w.ownsRow base 3 1 v f.bad.length (f.bad.map (Value.int .i64))) (hbase : base ≤ w.heap.size) (h0 : fuTime f t = 0) (hq : fuState b f t = 0) :
    Calls Try.prog 20 #[.pointer (some ⟨g, 0, none⟩), .int .i64 t, .bool false] w (FTellP w base g b f (fuTell b f t false) v 0) := by
  obtain ⟨A, c, rfl⟩ := own_form hown
  obtain ⟨ht1, ht2, ht3⟩ := fuTime_ok h0
  have htf := fault_any g b f _ t w h
  rw [h0] at htf
  have k9 : w.cell? ⟨g, 9, none⟩ = some (.int .i64 f.latest) := h.cell 9
  have f9 : w.frozen? ⟨g, 9, none⟩ = false := h.frozen 9
  have hb1 : Blk (w.setCell ⟨g, 9, none⟩ (.int .i64 t)) g 37 (fuCells b { f with latest := t } (.slice A f.bad.length c)) := h.set_ 9 (.int .i64 t)
  have hf1 : FuOk { f with latest := t } := ⟨ht1, ht2, hf.2.2⟩
  have hst := fstate_any g b { f with latest := t } _ t _ hb1 hb hf1 ht1 ht2
  have hse : fuState b { f with latest := t } t = 0 := hq
  rw [hse] at hst
  have hdef : fuTell b f t false = if b.fails ≤ ((cntUp (f.bad ++ [t]) (t - b.window) (f.bad.length + 1) : Nat) : Int) then fuTurn true t else { f with latest := t, bad := f.bad ++ [t] } := by
    unfold fuTell cntUp
    rw [if_pos ⟨hq, rfl⟩, List.take_of_length_le (by simp)]
  have hvg : (Value.slice A f.bad.length c).ownBlock ≠ some g := fun e => own_blk_ne hown h (by decide) e.symm
  have hkp : Kp [g] w (w.setCell ⟨g, 9, none⟩ (.int .i64 t)) := (Kp.refl _ _).set_ (.inl (by simp)) _
  have hown1 := own_kp1 hown h (by decide) hkp
  have hglt := h.lt
  obtain ⟨_, _, _, _, hbl, _⟩ := hf
  have hbb := hb
  obtain ⟨bf1, bf2, bw1, bw2, _⟩ := hbb
  have HT := Lib.hid htf
  have HS := Lib.hid hst
  have HB1 := Lib.hid hb1
  have HD := Lib.hid hdef
  have HO := Lib.hid hown1
  have HOW := Lib.hid hown
  have HVG := Lib.hid hvg
  clear h htf h0 hst hse hb1 hdef hf1 hq hown hown1 hvg
  go_enter Try.func20, Try.ntmps20
  go_wp2_with fail
  refine HT.out.mono ?_
  rintro e w1 ⟨rfl, rfl⟩
  go_wp2_with fail
  refine HS.out.mono ?_
  rintro e w1 ⟨rfl, nq, rfl⟩
  obtain ⟨w1, hw1⟩ : ∃ w1, (w.setCell ⟨g, 9, none⟩ (.int .i64 t)).drewN nq = w1 := ⟨_, rfl⟩
  rw [hw1]
  have hbw : Blk w1 g 37 (fuCells b { f with latest := t } (.slice A f.bad.length c)) := by subst hw1; exact HB1.out.drewN nq
  have hkw : Kp [g] w w1 := by subst hw1; exact hkp.drewN nq
  have how : w1.ownsRow base 3 1 (.slice A f.bad.length c) f.bad.length (f.bad.map (Value.int .i64)) := by subst hw1; exact own_kp0 HO.out ((Kp.refl _ _).drewN nq)
  have k6 : w1.cell? ⟨g, 6, none⟩ = some (.slice A f.bad.length c) := hbw.cell 6
  have hgl1 : g < w1.heap.size := hbw.lt
  have hs1 := hkw.size
  have HBW := Lib.hid hbw
  have HOWW := Lib.hid how
  have HW1 := Lib.hid hw1
  clear hbw how hw1
  go_wp2_with (at_builtin; refine app1r _ [.int .i64 t] rfl (.tmp 36) (.tmp 38) 22 3 1 8 rfl elemInt base (.slice A f.bad.length c) f.bad.length _ rfl HOWW.out _ _ rfl ?c0 rfl ?c1 ?c2 ?c3 ?c4 _ rfl ?_)
  case c0 => rfl
  case c1 => intro u hu; simp at hu; subst hu; rfl
  case c2 => omega
  case c3 => omega
  case c4 => omega
  intro gb cap w2 ho2 hg2 hgb2
  have hbg2 := HBW.out.grown hg2 (own_blk_ne HOWW.out HBW.out (by decide))
  have e1 : f.bad.map (Value.int .i64) ++ [.int .i64 t] = (f.bad ++ [t]).map (Value.int .i64) := by simp
  rw [e1] at ho2
  have hgbg : gb ≠ g := by
    rintro rfl
    rcases hgb2 with hh | hh
    · exact HVG.out hh.symm
    · omega
  have hkp2 : Kp (g :: obl (.slice A f.bad.length c)) w w2 := by
    refine ⟨hg2.os.trans hkw.os, hg2.tape.trans hkw.tape, hg2.output.trans hkw.output, Nat.le_trans hkw.size hg2.size, fun k hk hn => ?_⟩
    have hn1 : k ≠ g := fun e => hn (by simp [e])
    have hn2 : some k ≠ (Value.slice A f.bad.length c).ownBlock := fun e => hn (by unfold obl; rw [← e]; simp)
    rw [hg2.block k (Nat.lt_of_lt_of_le hk hkw.size) hn2]
    exact hkw.block k hk (by simpa using hn1)
  have hob : gb ∈ obl (.slice A f.bad.length c) ∨ w.heap.size ≤ gb := by
    rcases hgb2 with hh | hh
    · left; unfold obl; rw [← hh]; simp
    · right; omega
  obtain ⟨hrow, hmx, hbgb⟩ := own_rowN ho2
  have k6 : w2.cell? ⟨g, 6, none⟩ = some (.slice A f.bad.length c) := hbg2.cell 6
  have f6 : w2.frozen? ⟨g, 6, none⟩ = false := hbg2.frozen 6
  -- the new slice is stored
  have hb3 : Blk (w2.setCell ⟨g, 6, none⟩ (.slice (some ⟨gb, 0, none⟩) (f.bad.length + 1) cap)) g 37 (fuCells b { f with latest := t, bad := f.bad ++ [t] } (.slice (some ⟨gb, 0, none⟩) (f.bad.length + 1) cap)) := hbg2.set_ 6 _
  have hk3 : Kp (g :: obl (.slice A f.bad.length c)) w (w2.setCell ⟨g, 6, none⟩ (.slice (some ⟨gb, 0, none⟩) (f.bad.length + 1) cap)) := hkp2.set_ (.inl (by simp)) _
  have ho3 := own_kp1 ho2 hbg2 (by decide) ((Kp.refl [g] w2).set_ (p := ⟨g, 6, none⟩) (.inl (by simp)) (.slice (some ⟨gb, 0, none⟩) (f.bad.length + 1) cap))
  have hrow3 : ∀ j, j < f.bad.length + 1 → (w2.setCell ⟨g, 6, none⟩ (.slice (some ⟨gb, 0, none⟩) (f.bad.length + 1) cap)).cell? ⟨gb, j, none⟩ = some (.int .i64 ((f.bad ++ [t]).getD j 0)) := by
    intro j hj
    obtain ⟨⟨cur, hcb, _, _, _, hc⟩, _, _⟩ := own_rowN ho3
    rw [hcb.cell j]
    exact hc j hj
  have HB3 := Lib.hid hb3
  have HO3 := Lib.hid ho3
  have HR3 := Lib.hid hrow3
  have HK3 := Lib.hid hk3
  clear hb3 ho3 hrow3 hk3 ho2 hg2 hrow hbg2 e1
  go_wp2_with fail
  generalize hw3 : w2.setCell ⟨g, 6, none⟩ (.slice (some ⟨gb, 0, none⟩) (f.bad.length + 1) cap) = w3 at *
  clear hw3 k6 f6 hkp2
  have k1 : w3.cell? ⟨g, 1, none⟩ = some (.int .i64 b.window) := HB3.out.cell 1
  have k0 : w3.cell? ⟨g, 0, none⟩ = some (.int .i64 b.fails) := HB3.out.cell 0
  generalize hn1 : f.bad.length + 1 = n1 at *
  have HN1 := Lib.hid hn1
  have hn1b : n1 ≤ 10001 := by omega
  have hcast : ((f.bad.length : Int) + 1) = (n1 : Int) := by omega
  rw [hcast]
  clear hn1 hcast
  go_loop [9, 11, 47] (fun vn vx vi => ∃ k : Nat, k ≤ n1 ∧ vi = .int .i64 (k : Int) ∧ vn = .int .i64 (cntUp (f.bad ++ [t]) (t - b.window) k : Nat)) (fun _ _ vi => n1 - (intOf vi).toNat)
  case atStart => exact ⟨0, Nat.zero_le _, rfl, by simp [cntUp]⟩
  case round =>
    obtain ⟨k, hk, rfl, rfl⟩ := hrel
    have hcl := cntUp_le (f.bad ++ [t]) (t - b.window) k
    by_cases hlt : k < n1
    · have hsc := cntUp_succ (f.bad ++ [t]) (t - b.window) k (by rw [List.length_append]; simp; have := HN1.out; omega)
      obtain ⟨x, hx⟩ : ∃ x, (f.bad ++ [t]).getD k 0 = x := ⟨_, rfl⟩
      have c1 : w3.cell? ⟨gb, k, none⟩ = some (.int .i64 x) := by rw [HR3.out k hlt, hx]
      rw [hx] at hsc
      have HSC := Lib.hid hsc
      generalize cntUp (f.bad ++ [t]) (t - b.window) k = q at *
      clear hsc hx
      go_wp2_with fail
      all_goals
        go_round
        case rel => exact ⟨k + 1, by omega, by go_num, by rw [HSC.out]; first | rw [if_pos (by omega)]; go_num | rw [if_neg (by omega)]; rfl⟩
        case measure => simp [intOf]; omega
    · obtain rfl : k = n1 := by omega
      have HCnt := Lib.hid (rfl : cntUp (f.bad ++ [t]) (t - b.window) k = cntUp (f.bad ++ [t]) (t - b.window) k)
      generalize cntUp (f.bad ++ [t]) (t - b.window) k = q at *
      by_cases hfl : b.fails ≤ (q : Int)
      · have hfin : fuTell b f t false = fuTurn true t := by rw [HD.out, if_pos hfl]
        have HF := Lib.hid hfin
        have htn := turn_any g b _ true t w3 _ _ _ HB3.out
        have HTN := Lib.hid htn
        clear hfin htn
        go_wp2_with fail
        refine HTN.out.mono ?_
        rintro e w4 ⟨rfl, hb4, hk4⟩
        go_wp2_with fail
        go_ret
        refine ⟨rfl, .slice none 0 0, ?_, ?_, ?_, by simp [obl, Value.ownBlock]⟩
        · rw [HF.out]; exact hb4
        · rw [HF.out]; exact own_nil
        · exact HK3.out.trans hk4 (by intro k hk; simp at hk; subst hk; exact .inl (by simp))
      · have hfin : fuTell b f t false = { f with latest := t, bad := f.bad ++ [t] } := by rw [HD.out, if_neg hfl]
        have HF := Lib.hid hfin
        clear hfin
        go_wp2_with fail
        go_ret
        refine ⟨rfl, .slice (some ⟨gb, 0, none⟩) k cap, ?_, ?_, HK3.out, ?_⟩
        · rw [HF.out]; exact HB3.out
        · rw [HF.out]
          have : (f.bad ++ [t]).length = k := by rw [List.length_append]; exact HN1.out
          show w3.ownsRow base 3 1 _ (f.bad ++ [t]).length _
          rw [this]
          exact HO3.out
        · intro j hj
          have : j = gb := by simpa [obl, Value.ownBlock] using hj
          subst this
          exact hob

set_option maxHeartbeats 2000000 in
theorem ftell_any (base g : Nat) (b : Brk) (f : Fu) (v : Value) (t : Int) (good : Bool) (w : World) (h : Blk w g 37 (fuCells b f v)) (hb : BrkOk b) (hf : FuOk f)
    (hown : w.ownsRow base 3 1 v f.bad.length (f.bad.map (Value.int .i64))) (hbase : base ≤ w.heap.size) :
    Calls Try.prog 20 #[.pointer (some ⟨g, 0, none⟩), .int .i64 t, .bool good] w (FTellP w base g b f (if fuTime f t = 0 then fuTell b f t good else f) v (fuTime f t)) := by
  by_cases h0 : fuTime f t = 0
  · rw [if_pos h0]
    by_cases hcase : fuState b f t = 0 ∧ good = false
    · obtain ⟨hq, rfl⟩ := hcase
      rw [h0]
      exact ftell_bad base g b f v t w h hb hf hown hbase h0 hq
    · obtain ⟨A, c, rfl⟩ := own_form hown
      obtain ⟨ht1, ht2, ht3⟩ := fuTime_ok h0
      have htf := fault_any g b f _ t w h
      rw [h0] at htf ⊢
      have k9 : w.cell? ⟨g, 9, none⟩ = some (.int .i64 f.latest) := h.cell 9
      have f9 : w.frozen? ⟨g, 9, none⟩ = false := h.frozen 9
      have hb1 : Blk (w.setCell ⟨g, 9, none⟩ (.int .i64 t)) g 37 (fuCells b { f with latest := t } (.slice A f.bad.length c)) := h.set_ 9 (.int .i64 t)
      have hf1 : FuOk { f with latest := t } := ⟨ht1, ht2, hf.2.2⟩
      have hst := fstate_any g b { f with latest := t } _ t _ hb1 hb hf1 ht1 ht2
      have hsr := fuState_rng b f t
      have hse : fuState b { f with latest := t } t = fuState b f t := rfl
      rw [hse] at hst
      have hkp : Kp [g] w (w.setCell ⟨g, 9, none⟩ (.int .i64 t)) := (Kp.refl _ _).set_ (.inl (by simp)) _
      have hown1 := own_kp1 hown h (by decide) hkp
      have hdef : fuTell b f t good = if fuState b f t = 2 ∧ good = false then fuTurn true t else if fuState b f t = 2 then (if f.good + 1 = b.probes then fuTurn false t else { f with latest := t, good := f.good + 1 }) else { f with latest := t } := by
        unfold fuTell; rw [if_neg hcase]
      have hup : ∀ S, Kp [g] w S → Kp (g :: obl (.slice A f.bad.length c)) w S := fun S hS => hS.mono (by intro k hk; simp at hk; subst hk; simp)
      obtain ⟨_, _, _, _, _, _, _, og1, og2⟩ := hf
      have HT := Lib.hid htf
      have HS := Lib.hid hst
      have HB1 := Lib.hid hb1
      have HD := Lib.hid hdef
      have HO := Lib.hid hown1
      have HU := Lib.hid hup
      have HC := Lib.hid hcase
      generalize fuState b f t = q at *
      clear h htf h0 hst hse hb1 hdef hf1 hown hown1 hup hcase
      by_cases hq2 : q = 2
      · subst hq2
        cases good
        · have hfin : fuTell b f t false = fuTurn true t := by rw [HD.out, if_pos ⟨rfl, rfl⟩]
          have HF := Lib.hid hfin
          clear hfin HD
          go_enter Try.func20, Try.ntmps20
          go_wp2_with fail
          refine HT.out.mono ?_
          rintro e w1 ⟨rfl, rfl⟩
          go_wp2_with fail
          refine HS.out.mono ?_
          rintro e w1 ⟨rfl, nq, rfl⟩
          go_wp2_with fail
          refine (turn_any g b _ true t _ _ _ _ (HB1.out.drewN nq)).mono ?_
          rintro e w2 ⟨rfl, hb2, hk2⟩
          go_wp2_with fail
          go_ret
          refine ⟨rfl, .slice none 0 0, ?_, ?_, ?_, by simp [obl, Value.ownBlock]⟩
          · rw [HF.out]; exact hb2
          · rw [HF.out]; exact own_nil
          · exact HU.out _ ((hkp.drewN nq).tr hk2)
        · have hfin : fuTell b f t true = (if f.good + 1 = b.probes then fuTurn false t else { f with latest := t, good := f.good + 1 }) := by rw [HD.out, if_neg (by simp), if_pos rfl]
          have HF := Lib.hid hfin
          clear hfin HD
          go_enter Try.func20, Try.ntmps20
          go_wp2_with fail
          refine HT.out.mono ?_
          rintro e w1 ⟨rfl, rfl⟩
          go_wp2_with fail
          refine HS.out.mono ?_
          rintro e w1 ⟨rfl, nq, rfl⟩
          obtain ⟨w1, hw1⟩ : ∃ w1, (w.setCell ⟨g, 9, none⟩ (.int .i64 t)).drewN nq = w1 := ⟨_, rfl⟩
          rw [hw1]
          have hbw : Blk w1 g 37 (fuCells b { f with latest := t } (.slice A f.bad.length c)) := by subst hw1; exact HB1.out.drewN nq
          have hkw : Kp [g] w w1 := by subst hw1; exact hkp.drewN nq
          have how : w1.ownsRow base 3 1 (.slice A f.bad.length c) f.bad.length (f.bad.map (Value.int .i64)) := by subst hw1; exact own_kp0 HO.out ((Kp.refl _ _).drewN nq)
          have k8 : w1.cell? ⟨g, 8, none⟩ = some (.int .i64 f.good) := hbw.cell 8
          have f8 : w1.frozen? ⟨g, 8, none⟩ = false := hbw.frozen 8
          have k3 : w1.cell? ⟨g, 3, none⟩ = some (.int .i64 b.probes) := hbw.cell 3
          have hb2 : Blk (w1.setCell ⟨g, 8, none⟩ (.int .i64 (f.good + 1))) g 37 (fuCells b { f with latest := t, good := f.good + 1 } (.slice A f.bad.length c)) := hbw.set_ 8 _
          have hk2 : Kp [g] w (w1.setCell ⟨g, 8, none⟩ (.int .i64 (f.good + 1))) := hkw.set_ (.inl (by simp)) _
          have ho2 := own_kp1 how hbw (by decide) ((Kp.refl [g] w1).set_ (p := ⟨g, 8, none⟩) (.inl (by simp)) (.int .i64 (f.good + 1)))
          have HB2 := Lib.hid hb2
          have HO2 := Lib.hid ho2
          clear hbw how hw1 hb2 ho2
          by_cases hg : f.good + 1 = b.probes
          · have eg : (f.good + 1 == b.probes) = true := beq_iff_eq.2 hg
            have hfin : fuTell b f t true = fuTurn false t := by rw [HF.out, if_pos hg]
            have HFF := Lib.hid hfin
            clear hfin hg
            go_wp2_with fail
            go_quiet (fail)
            go_wp2_with fail
            refine (turn_any g b _ false t _ _ _ _ (HB2.out.drewN _)).mono ?_
            rintro e w2 ⟨rfl, hb3, hk3⟩
            go_wp2_with fail
            go_ret
            refine ⟨rfl, .slice none 0 0, ?_, ?_, ?_, by simp [obl, Value.ownBlock]⟩
            · rw [HFF.out]; exact hb3
            · rw [HFF.out]; exact own_nil
            · exact HU.out _ ((hk2.drewN _).tr hk3)
          · have eg : (f.good + 1 == b.probes) = false := beq_eq_false_iff_ne.2 hg
            have hfin : fuTell b f t true = { f with latest := t, good := f.good + 1 } := by rw [HF.out, if_neg hg]
            have HFF := Lib.hid hfin
            clear hfin
            go_wp2_with fail
            go_quiet (fail)
            go_wp2_with fail
            go_ret
            refine ⟨rfl, .slice A f.bad.length c, ?_, ?_, ?_, fun k hk => .inl hk⟩
            · rw [HFF.out]; exact HB2.out.drewN _
            · rw [HFF.out]; exact own_kp0 HO2.out ((Kp.refl _ _).drewN _)
            · exact HU.out _ (hk2.drewN _)
      · have e2 : (q == 2) = false := beq_eq_false_iff_ne.2 hq2
        have hfin : fuTell b f t good = { f with latest := t } := by rw [HD.out, if_neg (fun hh => hq2 hh.1), if_neg hq2]
        have HF := Lib.hid hfin
        clear hfin HD
        by_cases hq0 : q = 0
        · have hgd : good = true := by
            cases good
            · exact absurd ⟨hq0, rfl⟩ HC.out
            · rfl
          subst hgd hq0
          go_enter Try.func20, Try.ntmps20
          go_wp2_with fail
          refine HT.out.mono ?_
          rintro e w1 ⟨rfl, rfl⟩
          go_wp2_with fail
          refine HS.out.mono ?_
          rintro e w1 ⟨rfl, nq, rfl⟩
          go_wp2_with fail
          go_ret
          refine ⟨rfl, .slice A f.bad.length c, ?_, ?_, ?_, fun k hk => .inl hk⟩
          · rw [HF.out]; exact HB1.out.drewN _
          · rw [HF.out]; exact own_kp0 HO.out ((Kp.refl _ _).drewN _)
          · exact HU.out _ (hkp.drewN _)
        · obtain rfl : q = 1 := by omega
          cases good <;>
          · go_enter Try.func20, Try.ntmps20
            go_wp2_with fail
            refine HT.out.mono ?_
            rintro e w1 ⟨rfl, rfl⟩
            go_wp2_with fail
            refine HS.out.mono ?_
            rintro e w1 ⟨rfl, nq, rfl⟩
            go_wp2_with fail
            go_ret
            refine ⟨rfl, .slice A f.bad.length c, ?_, ?_, ?_, fun k hk => .inl hk⟩
            · rw [HF.out]; exact HB1.out.drewN _
            · rw [HF.out]; exact own_kp0 HO.out ((Kp.refl _ _).drewN _)
            · exact HU.out _ (hkp.drewN _)
  · rw [if_neg h0]
    have htf := fault_any g b f v t w h
    have H := Lib.hid h
    have HO := Lib.hid hown
    have HT := Lib.hid htf
    have hne : (fuTime f t != 0) = true := by simp [h0]
    clear h htf hown
    go_enter Try.func20, Try.ntmps20
    go_wp2_with fail
    refine HT.out.mono ?_
    rintro e w1 ⟨rfl, rfl⟩
    go_wp2_with fail
    go_ret
    exact ⟨rfl, v, H.out, HO.out, Kp.refl _ _, fun k hk => .inl hk⟩
end Go.Proofs.Ytmcegaabopcmfaa
