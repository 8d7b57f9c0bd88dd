/- Tell of a bad result while the breaker is closed. -/
import Derived.Test.YtmcegaabopcmfaaSwN
import Derived.Test.YtmcegaabopcmfaaReg
namespace Go.Proofs.Ytmcegaabopcmfaa
open Go.RowKit
set_option linter.unusedVariables false

/-- in the middle of Tell: the new bad one is told -/
def TellMid (w : World) (base g : Nat) (b : Brk) (p : Sw) (v : Value) (t : Int) (ys : List Int) (wx : World) : Prop :=
  ∃ gb cap, RowN wx gb cap ys.length ys ∧ cap ≤ maxLen ∧ base ≤ gb ∧ Blk wx g 111 (swCells b p (.slice (some ⟨gb, 0, none⟩) ys.length cap)) ∧
    Blk wx w.heap.size 29 #[.pointer (some ⟨g, 0, none⟩)] ∧ wx.cell? ⟨w.heap.size + 1, 0, none⟩ = some (.int .i64 t) ∧ Kp (g :: obl v) w wx ∧ (gb ∈ obl v ∨ w.heap.size ≤ gb)

set_option maxRecDepth 100000 in
set_option maxHeartbeats 4000000 in
theorem tell_bad (base g : Nat) (b : Brk) (s : Sw) (v : Value) (t : Int) (w : World) (h : Blk w g 111 (swCells b s v)) (hb : BrkOk b) (hs : SwOk s)
    (hown : w.ownsRow base 3 1 v s.bad.length (s.bad.map (Value.int .i64))) (hbase : base ≤ w.heap.size)
    (h0 : swTime s t = 0) (hst : (swPass b s t).state = 0) :
    Calls Try.prog 19 #[.pointer (some ⟨g, 0, none⟩), .int .i64 t, .bool false] w (TellP w base g b s v t false) := by
  have hglt := h.lt
  obtain ⟨A, c, rfl⟩ := own_form hown
  have hK0 : Kp [] w ((w.alloc (.cells #[.pointer (some ⟨g, 0, none⟩)] 29)).alloc (.cells #[.int .i64 t] 3)) := ((Kp.refl _ _).alloc _).alloc _
  have hB0 := (h.alloc (.cells #[.pointer (some ⟨g, 0, none⟩)] 29)).alloc (.cells #[.int .i64 t] 3)
  have htf := timeFault_any g b s (Value.slice A s.bad.length c) t _ hB0
  have hps := pass_any g b s (Value.slice A s.bad.length c) t _ hB0 hb hs
  rw [h0] at htf
  have HT := Lib.hid htf
  have HP := Lib.hid hps
  have H0 := Lib.hid h0
  obtain ⟨hok, ht1, ht2, ht3⟩ := swOk_pass (b := b) hs h0
  have hbad : (swPass b s t).bad = s.bad := by unfold swPass; split <;> rfl
  clear h0 htf hps
  have e0 : ((swPass b s t).state == 0) = true := beq_iff_eq.2 hst
  have e2 : ((swPass b s t).state == 2) = false := beq_eq_false_iff_ne.2 (by omega)
  generalize hp : swPass b s t = p at *
  go_enter Try.func19, Try.ntmps19
  go_wp2_with fail
  refine HT.out.mono ?_
  rintro e w1 ⟨rfl, rfl⟩
  go_wp2_with fail
  refine HP.out.mono ?_
  rintro e w1 ⟨rfl, hb1, hk1⟩
  have k5 : w1.cell? ⟨g, 5, none⟩ = some (.int .i64 p.state) := hb1.cell 5
  have k7 : w1.cell? ⟨g, 7, none⟩ = some (Value.slice A s.bad.length c) := hb1.cell 7
  have kb1 : w1.cell? ⟨w.heap.size, 0, none⟩ = some (.pointer (some ⟨g, 0, none⟩)) := (hk1.blk ((Blk.new w _ _).alloc _) (by simp; omega)).cell 0
  have kb2 : w1.cell? ⟨w.heap.size + 1, 0, none⟩ = some (.int .i64 t) := (hk1.blk (g := w.heap.size + 1) (t := 3) (cs := #[.int .i64 t]) (by simpa using Blk.new (w.alloc (.cells #[.pointer (some ⟨g, 0, none⟩)] 29)) 3 #[.int .i64 t]) (by simp; omega)).cell 0
  have hvlt : ∀ k, (Value.slice A s.bad.length c).ownBlock = some k → k < w.heap.size := by
    intro k hk
    rcases hown.2 with ⟨hv, _⟩ | ⟨g', cap', cur, hv, _, hh, _⟩
    · rw [hv] at hk; simp [Value.ownBlock] at hk
    · rw [hv] at hk; simp [Value.ownBlock] at hk; subst hk; exact Blk.lt (t := 3) hh
  have hvg : (Value.slice A s.bad.length c).ownBlock ≠ some g := fun e => own_blk_ne hown h (by decide) e.symm
  have hk0 : Kp [g] w w1 := (hK0.up).tr hk1
  have hown1 : w1.ownsRow base 3 1 (Value.slice A s.bad.length c) s.bad.length (s.bad.map (Value.int .i64)) := own_kp hown hk0 (by intro k hk; simp at hk; subst hk; exact hvg)
  have hsz1 : w.heap.size + 2 ≤ w1.heap.size := by have := hk1.size; simp at this; omega
  have hb29 : Blk w1 w.heap.size 29 #[.pointer (some ⟨g, 0, none⟩)] := hk1.blk ((Blk.new w _ _).alloc _) (by simp; omega)
  have hb3 : Blk w1 (w.heap.size + 1) 3 #[.int .i64 t] := hk1.blk (by simpa using Blk.new (w.alloc (.cells #[.pointer (some ⟨g, 0, none⟩)] 29)) 3 #[.int .i64 t]) (by simp; omega)
  -- behind the append
  have happ : ∀ gb cap w2, w2.ownsRow base 3 1 (.slice (some ⟨gb, 0, none⟩) (s.bad.length + 1) cap) (s.bad.length + 1) (s.bad.map (Value.int .i64) ++ [.int .i64 t]) → (w1.alloc (.cells #[.int .i64 t] 3)).drew.grownBy w2 (Value.slice A s.bad.length c).ownBlock → (some gb = (Value.slice A s.bad.length c).ownBlock ∨ gb = (w1.alloc (.cells #[.int .i64 t] 3)).drew.heap.size) →
      DelEnv w2 (w.heap.size + 1) w.heap.size g b t ∧ RowN w2 gb cap (s.bad.length + 1) (s.bad ++ [t]) ∧ cap ≤ maxLen ∧ base ≤ gb ∧ w.heap.size + 1 ≠ gb ∧ w.heap.size ≠ gb ∧ g ≠ gb ∧ Blk w2 w.heap.size 29 #[.pointer (some ⟨g, 0, none⟩)] ∧ Blk w2 g 111 (swCells b p (Value.slice A s.bad.length c)) ∧ Kp (g :: obl (Value.slice A s.bad.length c)) w w2 := by
    intro gb cap w2 ho hg hgb
    have hg1 : w1.grownBy w2 (Value.slice A s.bad.length c).ownBlock := ⟨hg.os, hg.tape, hg.output, by have := hg.size; simp at this; omega, fun k hk hne => (hg.block k (by simp; omega) hne).trans (by
      have := Below.heap_alloc w1 (.cells #[.int .i64 t] 3) k hk
      exact this)⟩
    have c29 := hb29.grown hg1 (own_blk_ne hown1 hb29 (by decide))
    have c3 := hb3.grown hg1 (fun e => by have := hvlt _ e.symm; omega)
    have cg := hb1.grown hg1 (fun e => hvg e.symm)
    have e1 : s.bad.map (Value.int .i64) ++ [.int .i64 t] = (s.bad ++ [t]).map (Value.int .i64) := by simp
    rw [e1] at ho
    obtain ⟨hr, hm, hbg⟩ := own_rowN ho
    have hgb' : gb < w.heap.size ∧ gb ≠ g ∨ w1.heap.size < gb := by
      rcases hgb with hh | hh
      · exact .inl ⟨hvlt gb hh.symm, fun e => hvg (by rw [← hh, e])⟩
      · right; simp at hh; omega
    refine ⟨⟨c3.cell 0, c29.cell 0, cg.cell 1⟩, hr, hm, hbg, by omega, by omega, by omega, c29, cg, ?_⟩
    refine ⟨hg1.os.trans hk0.os, hg1.tape.trans hk0.tape, hg1.output.trans hk0.output, Nat.le_trans hk0.size hg1.size, fun k hk hn => ?_⟩
    have hn1 : k ≠ g := fun e => hn (by simp [e])
    have hn2 : some k ≠ (Value.slice A s.bad.length c).ownBlock := fun e => hn (by simp [obl, ← e])
    rw [hg1.block k (Nat.lt_of_lt_of_le hk hk0.size) hn2]
    exact hk0.block k hk (by simpa using hn1)
  have HAPP := Lib.hid happ
  have HO1 := Lib.hid hown1
  have HOW := Lib.hid hown
  have HBAD := Lib.hid hbad
  have HPP := Lib.hid hp
  have HST := Lib.hid hst
  obtain ⟨_, _, _, _, _, _, o7, _⟩ := hs
  have hbase1 : base ≤ w1.heap.size := by omega
  have hvo : w1.cell? ⟨g, 7, none⟩ = some (.slice A s.bad.length c) := k7
  clear happ hown1 hown hbad hp hst hb1 hb29 hb3 h hB0 hK0 HT HP k7
  have hgl1 : g < w1.heap.size := by omega
  have hgl2 : w.heap.size < w1.heap.size := by omega
  have hgl3 : w.heap.size + 1 < w1.heap.size := by omega
  have kk1 : (w1.alloc (.cells #[.int .i64 t] 3)).cell? ⟨g, 7, none⟩ = some (.slice A s.bad.length c) := by rw [World.cell?_alloc_lt w1 _ _ hgl1]; exact hvo
  have kk2 : (w1.alloc (.cells #[.int .i64 t] 3)).cell? ⟨w.heap.size, 0, none⟩ = some (.pointer (some ⟨g, 0, none⟩)) := by rw [World.cell?_alloc_lt w1 _ _ hgl2]; exact kb1
  have kk3 : (w1.alloc (.cells #[.int .i64 t] 3)).cell? ⟨w.heap.size + 1, 0, none⟩ = some (.int .i64 t) := by rw [World.cell?_alloc_lt w1 _ _ hgl3]; exact kb2
  go_upto_region 12 with fail
  go_cut [] (fun wx => TellMid w base g b p (.slice A s.bad.length c) t ((s.bad ++ [t]).filter fun x => !delP b t x) wx)
  case first =>
    refine wp_region_X (fun w' => w'.cell? ⟨w.heap.size, 0, none⟩ = some (.pointer (some ⟨g, 0, none⟩)) ∧ w'.cell? ⟨w.heap.size + 1, 0, none⟩ = some (.int .i64 t) ∧ w'.cell? ⟨g, 7, none⟩ = some (.slice A s.bad.length c)) 12 (by kernel_rfl) ?_
    have hS0 : w1.drew.cell? ⟨w.heap.size, 0, none⟩ = some (.pointer (some ⟨g, 0, none⟩)) ∧ w1.drew.cell? ⟨w.heap.size + 1, 0, none⟩ = some (.int .i64 t) ∧ w1.drew.cell? ⟨g, 7, none⟩ = some (.slice A s.bad.length c) := ⟨kb1, kb2, hvo⟩
    refine wpAnyX_take 0 (.pointer (some ⟨g, 0, none⟩)) rfl (by kernel_rfl) (by kernel_rfl) (by kernel_rfl) (by kernel_rfl) (fun _ _ _ h => h) (by rfl) (fun w' hSw => ?_) hS0 ?_
    · obtain ⟨q1, q2, q3⟩ := hSw
      clear hS0
      go_simp
    refine wpAnyX_take 1 (.pointer (some ⟨g, 0, none⟩)) rfl (by kernel_rfl) (by kernel_rfl) (by kernel_rfl) (by kernel_rfl) (fun _ _ _ h => h) (by rfl) (fun w' hSw => ?_) hS0 ?_
    · obtain ⟨q1, q2, q3⟩ := hSw
      clear hS0
      go_simp
    simp only [Act.put]
    refine wpAnyX_take 2 (.pointer (some ⟨g, 0, none⟩)) rfl (by kernel_rfl) (by kernel_rfl) (by kernel_rfl) (by kernel_rfl) (fun _ _ _ h => h) (by rfl) (fun w' hSw => ?_) hS0 ?_
    · obtain ⟨q1, q2, q3⟩ := hSw
      clear hS0
      go_simp
    simp only [Act.put]
    refine wpAnyX_take 3 (.pointer (some ⟨g, 7, none⟩)) rfl (by kernel_rfl) (by kernel_rfl) (by kernel_rfl) (by kernel_rfl) (fun _ _ _ h => h) (by rfl) (fun w' hSw => ?_) hS0 ?_
    · obtain ⟨q1, q2, q3⟩ := hSw
      clear hS0
      go_simp
    simp only [Act.put]
    refine wpAnyX_take 4 (.slice A s.bad.length c) rfl (by kernel_rfl) (by kernel_rfl) (by kernel_rfl) (by kernel_rfl) (fun _ _ _ h => h) (by rfl) (fun w' hSw => ?_) hS0 ?_
    · obtain ⟨q1, q2, q3⟩ := hSw
      clear hS0
      go_simp
    simp only [Act.put]
    refine wpAnyX_take 5 (.int .i64 t) rfl (by kernel_rfl) (by kernel_rfl) (by kernel_rfl) (by kernel_rfl) (fun _ _ _ h => h) (by rfl) (fun w' hSw => ?_) hS0 ?_
    · obtain ⟨q1, q2, q3⟩ := hSw
      clear hS0
      go_simp
    simp only [Act.put]
    refine wpAnyX_take 8 (.func (.func 83) #[] #[.pointer (some ⟨w.heap.size + 1, 0, none⟩), .pointer (some ⟨w.heap.size, 0, none⟩)]) rfl (by kernel_rfl) (by kernel_rfl) (by kernel_rfl) (by kernel_rfl) (fun _ _ _ h => h) (by rfl) (fun w' hSw => ?_) hS0 ?_
    · obtain ⟨q1, q2, q3⟩ := hSw
      clear hS0
      go_simp
    simp only [Act.put]
    refine wpAnyX_one 6 (by kernel_rfl) rfl (fun K hK => ?_)
    go_simp
    refine hK _ _ (.inr ⟨kk2, kk3, kk1⟩) ?_
    clear hK K hS0
    refine wpAnyX_one 7 (by kernel_rfl) rfl (fun K hK => ?_)
    refine step_app1 _ (w1.alloc (.cells #[.int .i64 t] 3)).drew [.int .i64 t] (by rfl) (.tmp 70) (.tmp 72) 22 3 1 8 (by rfl) elemInt base (.slice A s.bad.length c) s.bad.length (s.bad.map (Value.int .i64)) (by rfl) (own_kp0 HO1.out (((Kp.refl _ _).alloc _).drew)) w1.heap.size 1 (by rfl) (by rfl) (by intro u hu; simp at hu; subst hu; rfl) (cell_one_new w1 _ _) (by omega) (by omega) (by simp; omega) (by rfl) ?_
    intro gb cap w2 ho2 hg2 hgb2
    obtain ⟨hde, hrow, hmx, hbgb, hn1, hn2, hn3, hb29, hbg2, hkp2⟩ := HAPP.out gb cap w2 ho2 hg2 hgb2
    refine hK _ _ (.inr ⟨hde.2, hde.1, hbg2.cell 7⟩) ?_
    have hgbo : gb ∈ obl (.slice A s.bad.length c) ∨ w.heap.size ≤ gb := by
      rcases hgb2 with hh | hh
      · left; unfold obl; rw [← hh]; simp
      · right; simp at hh; omega
    have HGB := Lib.hid hgb2
    clear hK K ho2 hg2 hgb2 kk1 kk2 kk3
    try simp only [Act.put]
    refine wpAnyX_one 9 (by kernel_rfl) rfl (fun K hK => ?_)
    go_simp
    refine (deleteFunc_tell (w.heap.size + 1) w.heap.size g b t w2 hde hb ht1 ht2 gb (s.bad.length + 1) cap (s.bad ++ [t]) (by omega) hrow hn1 hn2 hn3 hmx).mono ?_
    rintro e w3 ⟨rfl, hr3, hk3⟩
    have hde3 := hde.kp hk3 hn1 hn2 hn3
    have hbg3 := hk3.blk hbg2 (by simpa using hn3)
    have hb293 := hk3.blk hb29 (by simpa using hn2)
    have hkp3 : Kp (g :: obl (.slice A s.bad.length c)) w w3 := hkp2.trans hk3 (by
      intro k hk
      have : k = gb := by simpa using hk
      subst this
      rcases hgbo with hh | hh
      · exact .inl (by simp [hh])
      · exact .inr hh)
    refine hK _ _ (.inr ⟨hde3.2, hde3.1, hbg3.cell 7⟩) ?_
    have k3c : w3.cell? ⟨g, 7, none⟩ = some (.slice A s.bad.length c) := hbg3.cell 7
    have f3c : w3.frozen? ⟨g, 7, none⟩ = false := hbg3.frozen 7
    have HR3 := Lib.hid hr3
    have HBG3 := Lib.hid hbg3
    have HDE3 := Lib.hid hde3
    have HB29 := Lib.hid hb293
    generalize ((s.bad ++ [t]).filter fun x => !delP b t x) = ys at *
    clear hK K hr3 hbg3 hde3 hb293 hde hrow hbg2 hb29 hkp2
    try simp only [Act.put]
    refine wpAnyX_one 10 (by kernel_rfl) rfl (fun K hK => ?_)
    go_simp
    refine hK _ _ (.inr ⟨HDE3.out.2, HDE3.out.1, k3c⟩) ?_
    clear hK K
    refine wpAnyX_one 11 (by kernel_rfl) rfl (fun K hK => ?_)
    go_simp
    refine hK _ _ (.inr ⟨HDE3.out.2, HDE3.out.1, k3c⟩) ?_
    clear hK K
    refine wpAnyX_one 12 (by kernel_rfl) rfl (fun K hK => ?_)
    go_simp
    refine hK _ _ (.inl rfl) ?_
    clear hK K
    refine wpAnyX_done (by kernel_rfl) ?_ _
    go_wp2_with fail
    go_meet
    refine ⟨gb, cap, ?_, hmx, hbgb, HBG3.out.set_ 7 _, HB29.out.far (by show w.heap.size ≠ g; omega) _, ?_, hkp3.set_ (.inl (by simp)) _, hgbo⟩
    · obtain ⟨cur, r1, r2⟩ := HR3.out
      exact ⟨cur, r1.far (by show gb ≠ g; exact fun e => hn3 e.symm) _, r2⟩
    · rw [World.cell?_setCell_other _ _ _ _ (fun e => by injection e with e; omega)]
      exact HDE3.out.1
  case rest =>
    obtain ⟨gb, cap, hr, hmx, hbgb, hbk, hbx1, hbx2, hkc, hgbo⟩ := hcut
    have hdef : swTell b s t false = (if b.fails ≤ (((s.bad ++ [t]).filter fun x => !delP b t x).length : Int) then swTrip { p with bad := (s.bad ++ [t]).filter fun x => !delP b t x } t else { p with bad := (s.bad ++ [t]).filter fun x => !delP b t x }) := by
      unfold swTell
      rw [HPP.out]
      simp only [HST.out]
      rw [if_neg (by omega), if_neg (by omega), if_pos ⟨trivial, trivial⟩, HBAD.out]
      rfl
    generalize hys : ((s.bad ++ [t]).filter fun x => !delP b t x) = ys at *
    have HDF := Lib.hid hdef
    have hylen : ys.length ≤ 10001 := by
      rw [← hys]
      have h1 := List.length_filter_le (fun x => !delP b t x) (s.bad ++ [t])
      have h2 : (s.bad ++ [t]).length = s.bad.length + 1 := by simp
      omega
    have q1 : wc.cell? ⟨w.heap.size, 0, none⟩ = some (.pointer (some ⟨g, 0, none⟩)) := hbx1.cell 0
    have q2 : wc.cell? ⟨g, 7, none⟩ = some (.slice (some ⟨gb, 0, none⟩) ys.length cap) := hbk.cell 7
    have q3 : wc.cell? ⟨g, 0, none⟩ = some (.int .i64 b.fails) := hbk.cell 0
    have HBK := Lib.hid hbk
    have HRR := Lib.hid hr
    have HYS := Lib.hid hys
    clear hdef hbk hr hys hbx1 HAPP hvlt hvg HOW
    by_cases hfl : b.fails ≤ (ys.length : Int)
    · have e5 : decide (b.fails ≤ (ys.length : Int)) = true := decide_eq_true hfl
      have hfin : swTell b s t false = swTrip { p with bad := ys } t := by rw [HDF.out, if_pos hfl]
      have HFF := Lib.hid hfin
      clear hfin
      go_wp2_with fail
      go_quiet (fail)
      go_wp2_with fail
      refine (trip_any g b { p with bad := ys } _ t _ (HBK.out.drewN _) _ _ _ rfl).mono ?_
      rintro e w4 ⟨rfl, hb4, hk4⟩
      go_wp2_with fail
      go_ret
      refine ⟨ret_int H0.out.symm, .slice none 0 0, ?_, ?_, ?_, by simp [obl, Value.ownBlock]⟩
      · rw [if_pos H0.out, HFF.out]; exact hb4
      · rw [if_pos H0.out, HFF.out]; exact own_nil
      · exact (hkc.drewN _).trans hk4 (by intro k hk; simp at hk; subst hk; exact .inl (by simp))
    · have e5 : decide (b.fails ≤ (ys.length : Int)) = false := decide_eq_false hfl
      have hfin : swTell b s t false = { p with bad := ys } := by rw [HDF.out, if_neg hfl]
      have HFF := Lib.hid hfin
      clear hfin
      go_wp2_with fail
      go_quiet (fail)
      go_wp2_with fail
      go_ret
      refine ⟨ret_int H0.out.symm, .slice (some ⟨gb, 0, none⟩) ys.length cap, ?_, ?_, hkc.drewN _, ?_⟩
      · rw [if_pos H0.out, HFF.out]; exact HBK.out.drewN _
      · rw [if_pos H0.out, HFF.out]
        exact own_kp0 (rowN_own HRR.out hmx hbgb) ((Kp.refl _ _).drewN _)
      · intro k hk
        have : k = gb := by simpa [obl, Value.ownBlock] using hk
        subst this
        exact hgbo

theorem swTell_other {b : Brk} {s : Sw} {t : Int} {good : Bool} (p : Sw) (hp : swPass b s t = p) (h : ¬ (p.state = 0 ∧ good = false)) :
    swTell b s t good = if p.state = 2 ∧ good = false then swTrip p t else if p.state = 2 then (if p.good + 1 = b.probes then { p with good := p.good + 1, state := 0 } else { p with good := p.good + 1 }) else p := by
  unfold swTell
  rw [hp]
  dsimp only
  by_cases h1 : p.state = 2 ∧ good = false
  · rw [if_pos h1, if_pos h1]
  · by_cases h2 : p.state = 2
    · rw [if_neg h1, if_neg h1, if_pos h2, if_pos h2]
    · rw [if_neg h1, if_neg h1, if_neg h2, if_neg h2, if_neg h]

set_option maxHeartbeats 2000000 in
theorem swTell_any (base g : Nat) (b : Brk) (s : Sw) (v : Value) (t : Int) (good : Bool) (w : World) (h : Blk w g 111 (swCells b s v)) (hb : BrkOk b) (hs : SwOk s)
    (hown : w.ownsRow base 3 1 v s.bad.length (s.bad.map (Value.int .i64))) (hbase : base ≤ w.heap.size) :
    Calls Try.prog 19 #[.pointer (some ⟨g, 0, none⟩), .int .i64 t, .bool good] w (TellP w base g b s v t good) := by
  by_cases h0 : swTime s t = 0
  · by_cases hcase : (swPass b s t).state = 0 ∧ good = false
    · obtain ⟨hq, rfl⟩ := hcase
      exact tell_bad base g b s v t w h hb hs hown hbase h0 hq
    · obtain ⟨A, c, rfl⟩ := own_form hown
      have hglt := h.lt
      have hB0 := (h.alloc (.cells #[.pointer (some ⟨g, 0, none⟩)] 29)).alloc (.cells #[.int .i64 t] 3)
      have hK0 : Kp [] w ((w.alloc (.cells #[.pointer (some ⟨g, 0, none⟩)] 29)).alloc (.cells #[.int .i64 t] 3)) := ((Kp.refl _ _).alloc _).alloc _
      have htf := timeFault_any g b s _ t _ hB0
      have hps := pass_any g b s _ t _ hB0 hb hs
      rw [h0] at htf
      have hdef := swTell_other _ rfl hcase
      obtain ⟨hok, ht1, ht2, ht3⟩ := swOk_pass (b := b) hs h0
      have hbad : (swPass b s t).bad = s.bad := by unfold swPass; split <;> rfl
      have hup : ∀ S, Kp [g] w S → Kp (g :: obl (.slice A s.bad.length c)) w S := fun S hS => hS.mono (by intro k hk; simp at hk; subst hk; simp)
      have hvg : (Value.slice A s.bad.length c).ownBlock ≠ some g := fun e => own_blk_ne hown h (by decide) e.symm
      have hownk : ∀ S, Kp [g] w S → S.ownsRow base 3 1 (.slice A s.bad.length c) s.bad.length (s.bad.map (Value.int .i64)) := fun S hS => own_kp hown hS (by intro k hk; simp at hk; subst hk; exact hvg)
      generalize hp : swPass b s t = p at *
      obtain ⟨_, _, o3, o4, _, _, _, _, _, og1, og2⟩ := hok
      have HT := Lib.hid htf
      have HP := Lib.hid hps
      have H0 := Lib.hid h0
      have HD := Lib.hid hdef
      have HU := Lib.hid hup
      have HO := Lib.hid hownk
      have HBAD := Lib.hid hbad
      have HC := Lib.hid hcase
      clear h hB0 htf hps h0 hdef hup hown hownk hbad hcase hp hvg hs
      by_cases h2 : p.state = 2
      · have e2 : (p.state == 2) = true := beq_iff_eq.2 h2
        cases good
        · have hfin : swTell b s t false = swTrip p t := by rw [HD.out, if_pos ⟨h2, rfl⟩]
          have HF := Lib.hid hfin
          clear hfin HD h2
          go_enter Try.func19, Try.ntmps19
          go_wp2_with fail
          refine HT.out.mono ?_
          rintro e w1 ⟨rfl, rfl⟩
          go_wp2_with fail
          refine HP.out.mono ?_
          rintro e w1 ⟨rfl, hb1, hk1⟩
          have k5 : w1.cell? ⟨g, 5, none⟩ = some (.int .i64 p.state) := hb1.cell 5
          have kb1 : w1.cell? ⟨w.heap.size, 0, none⟩ = some (.pointer (some ⟨g, 0, none⟩)) := (hk1.blk ((Blk.new w _ _).alloc _) (by simp; omega)).cell 0
          have kb2 : w1.cell? ⟨w.heap.size + 1, 0, none⟩ = some (.int .i64 t) := (hk1.blk (g := w.heap.size + 1) (t := 3) (cs := #[.int .i64 t]) (by simpa using Blk.new (w.alloc (.cells #[.pointer (some ⟨g, 0, none⟩)] 29)) 3 #[.int .i64 t]) (by simp; omega)).cell 0
          have HB1 := Lib.hid hb1
          clear hb1
          go_wp2_with fail
          refine (trip_any g b p _ t _ HB1.out _ _ _ rfl).mono ?_
          rintro e w2 ⟨rfl, hb2, hk2⟩
          go_wp2_with fail
          go_ret
          refine ⟨ret_int H0.out.symm, .slice none 0 0, ?_, ?_, ?_, by simp [obl, Value.ownBlock]⟩
          · rw [if_pos H0.out, HF.out]; exact hb2
          · rw [if_pos H0.out, HF.out]; exact own_nil
          · exact HU.out _ (((hK0.up).tr hk1).tr hk2)
        · have hfin : swTell b s t true = (if p.good + 1 = b.probes then { p with good := p.good + 1, state := 0 } else { p with good := p.good + 1 }) := by rw [HD.out, if_neg (by simp), if_pos h2]
          have HF := Lib.hid hfin
          clear hfin HD
          by_cases hg : p.good + 1 = b.probes
          · have eg : (p.good + 1 == b.probes) = true := beq_iff_eq.2 hg
            have hfin : swTell b s t true = { p with good := p.good + 1, state := 0 } := by rw [HF.out, if_pos hg]
            have HFF := Lib.hid hfin
            clear hfin hg h2
            go_enter Try.func19, Try.ntmps19
            go_wp2_with fail
            refine HT.out.mono ?_
            rintro e w1 ⟨rfl, rfl⟩
            go_wp2_with fail
            refine HP.out.mono ?_
            rintro e w1 ⟨rfl, hb1, hk1⟩
            have k5 : w1.cell? ⟨g, 5, none⟩ = some (.int .i64 p.state) := hb1.cell 5
            have k9 : w1.cell? ⟨g, 9, none⟩ = some (.int .i64 p.good) := hb1.cell 9
            have k3 : w1.cell? ⟨g, 3, none⟩ = some (.int .i64 b.probes) := hb1.cell 3
            have f9 : w1.frozen? ⟨g, 9, none⟩ = false := hb1.frozen 9
            have f5 : w1.frozen? ⟨g, 5, none⟩ = false := hb1.frozen 5
            have kb1 : w1.cell? ⟨w.heap.size, 0, none⟩ = some (.pointer (some ⟨g, 0, none⟩)) := (hk1.blk ((Blk.new w _ _).alloc _) (by simp; omega)).cell 0
            have hne : ¬ w.heap.size = g := by omega
            have hne' : ¬ g = w.heap.size := by omega
            have HB1 := Lib.hid hb1
            clear hb1
            go_wp2_with fail
            go_quiet (fail)
            go_wp2_with fail
            go_ret
            have hkk : Kp [g] w w1 := (hK0.up).tr hk1
            refine ⟨ret_int H0.out.symm, .slice A s.bad.length c, ?_, ?_, ?_, fun k hk => .inl hk⟩
            · rw [if_pos H0.out, HFF.out]; exact ((HB1.out.set_ 9 (.int .i64 (p.good + 1))).set_ 5 (.int .i64 0)).drewN _
            · rw [if_pos H0.out, HFF.out]
              show World.ownsRow _ _ _ _ _ p.bad.length (p.bad.map (Value.int .i64))
              rw [HBAD.out]
              exact HO.out _ (((hkk.set_ (p := ⟨g, 9, none⟩) (.inl (by simp)) _).set_ (p := ⟨g, 5, none⟩) (.inl (by simp)) _).drewN _)
            · exact HU.out _ (((hkk.set_ (p := ⟨g, 9, none⟩) (.inl (by simp)) _).set_ (p := ⟨g, 5, none⟩) (.inl (by simp)) _).drewN _)
          · have eg : (p.good + 1 == b.probes) = false := beq_eq_false_iff_ne.2 hg
            have hfin : swTell b s t true = { p with good := p.good + 1 } := by rw [HF.out, if_neg hg]
            have HFF := Lib.hid hfin
            clear hfin h2
            go_enter Try.func19, Try.ntmps19
            go_wp2_with fail
            refine HT.out.mono ?_
            rintro e w1 ⟨rfl, rfl⟩
            go_wp2_with fail
            refine HP.out.mono ?_
            rintro e w1 ⟨rfl, hb1, hk1⟩
            have k5 : w1.cell? ⟨g, 5, none⟩ = some (.int .i64 p.state) := hb1.cell 5
            have k9 : w1.cell? ⟨g, 9, none⟩ = some (.int .i64 p.good) := hb1.cell 9
            have k3 : w1.cell? ⟨g, 3, none⟩ = some (.int .i64 b.probes) := hb1.cell 3
            have f9 : w1.frozen? ⟨g, 9, none⟩ = false := hb1.frozen 9
            have kb1 : w1.cell? ⟨w.heap.size, 0, none⟩ = some (.pointer (some ⟨g, 0, none⟩)) := (hk1.blk ((Blk.new w _ _).alloc _) (by simp; omega)).cell 0
            have hne : ¬ w.heap.size = g := by omega
            have hne' : ¬ g = w.heap.size := by omega
            have HB1 := Lib.hid hb1
            clear hb1
            go_wp2_with fail
            go_quiet (fail)
            go_wp2_with fail
            go_ret
            have hkk : Kp [g] w w1 := (hK0.up).tr hk1
            refine ⟨ret_int H0.out.symm, .slice A s.bad.length c, ?_, ?_, ?_, fun k hk => .inl hk⟩
            · rw [if_pos H0.out, HFF.out]; exact (HB1.out.set_ 9 (.int .i64 (p.good + 1))).drewN _
            · rw [if_pos H0.out, HFF.out]
              show World.ownsRow _ _ _ _ _ p.bad.length (p.bad.map (Value.int .i64))
              rw [HBAD.out]
              exact HO.out _ ((hkk.set_ (p := ⟨g, 9, none⟩) (.inl (by simp)) _).drewN _)
            · exact HU.out _ ((hkk.set_ (p := ⟨g, 9, none⟩) (.inl (by simp)) _).drewN _)
      · have e2 : (p.state == 2) = false := beq_eq_false_iff_ne.2 h2
        have hfin : swTell b s t good = p := by rw [HD.out, if_neg (fun hh => h2 hh.1), if_neg h2]
        have HF := Lib.hid hfin
        clear hfin HD
        have hgo : good = true ∨ (p.state == 0) = false := by
          cases good
          · right; exact beq_eq_false_iff_ne.2 fun e => HC.out ⟨e, rfl⟩
          · exact .inl rfl
        rcases hgo with rfl | e0
        all_goals
          first
          | cases good
          | skip
        all_goals
          go_enter Try.func19, Try.ntmps19
          go_wp2_with fail
          refine HT.out.mono ?_
          rintro e w1 ⟨rfl, rfl⟩
          go_wp2_with fail
          refine HP.out.mono ?_
          rintro e w1 ⟨rfl, hb1, hk1⟩
          have k5 : w1.cell? ⟨g, 5, none⟩ = some (.int .i64 p.state) := hb1.cell 5
          have kb1 : w1.cell? ⟨w.heap.size, 0, none⟩ = some (.pointer (some ⟨g, 0, none⟩)) := (hk1.blk ((Blk.new w _ _).alloc _) (by simp; omega)).cell 0
          have HB1 := Lib.hid hb1
          clear hb1
          go_wp2_with fail
          all_goals
            go_ret
            refine ⟨ret_int H0.out.symm, .slice A s.bad.length c, ?_, ?_, ?_, fun k hk => .inl hk⟩
            · rw [if_pos H0.out, HF.out]; exact HB1.out
            · rw [if_pos H0.out, HF.out, HBAD.out]; exact HO.out _ ((hK0.up).tr hk1)
            · exact HU.out _ ((hK0.up).tr hk1)
  · have hne : (swTime s t != 0) = true := by simp [h0]
    have hB0 := (h.alloc (.cells #[.pointer (some ⟨g, 0, none⟩)] 29)).alloc (.cells #[.int .i64 t] 3)
    have htf := timeFault_any g b s v t _ hB0
    have hK0 : Kp [] w ((w.alloc (.cells #[.pointer (some ⟨g, 0, none⟩)] 29)).alloc (.cells #[.int .i64 t] 3)) := ((Kp.refl _ _).alloc _).alloc _
    have HT := Lib.hid htf
    have HB := Lib.hid hB0
    have HO := Lib.hid hown
    clear htf hB0 hown h
    go_enter Try.func19, Try.ntmps19
    go_wp2_with fail
    refine HT.out.mono ?_
    rintro e w1 ⟨rfl, rfl⟩
    go_wp2_with fail
    go_ret
    refine ⟨rfl, v, ?_, ?_, hK0.up, fun k hk => .inl hk⟩
    · rw [if_neg h0]; exact HB.out
    · rw [if_neg h0]; exact own_kp0 HO.out hK0
end Go.Proofs.Ytmcegaabopcmfaa
