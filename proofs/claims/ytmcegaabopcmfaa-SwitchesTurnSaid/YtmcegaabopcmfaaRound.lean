/- Round: the smooth round, as a plain function of the instances; and what the law's own look at it (balanced) returns. -/
import Derived.Test.YtmcegaabopcmfaaInst
namespace Go.Proofs.Ytmcegaabopcmfaa
open Go.RowKit
set_option linter.unusedVariables false

def bestUp (f : Nat → Int) : Nat → Nat
  | 0 => 0
  | i + 1 => if f (bestUp f i) < f i then i else bestUp f i
theorem bestUp_le (f : Nat → Int) (i : Nat) : bestUp f i ≤ i - 1 := by
  induction i with
  | zero => simp [bestUp]
  | succ i ih => unfold bestUp; split <;> omega
def rNum (xs : List (ByteArray × Int)) (n : Nat) : Nat → Nat → Int
  | 0 => fun _ => 0
  | t + 1 => fun j => if j = bestUp (fun i => rNum xs n t i + wt xs i) n then rNum xs n t j + wt xs j - sumW xs n else rNum xs n t j + wt xs j
def rBest (xs : List (ByteArray × Int)) (n t : Nat) : Nat := bestUp (fun i => rNum xs n t i + wt xs i) n
def rOut (xs : List (ByteArray × Int)) (n t : Nat) : List ByteArray := (List.range t).map fun u => ky xs (rBest xs n u)
theorem rOut_succ (xs : List (ByteArray × Int)) (n t : Nat) : rOut xs n (t + 1) = rOut xs n t ++ [ky xs (rBest xs n t)] := by
  unfold rOut; rw [List.range_succ, List.map_append]; rfl
/-- in the middle of a turn -/
def rMid (xs : List (ByteArray × Int)) (n t i : Nat) : Nat → Int := fun j => if j < i then rNum xs n t j + wt xs j else rNum xs n t j
theorem rMid_zero (xs : List (ByteArray × Int)) (n t : Nat) : rMid xs n t 0 = rNum xs n t := by funext j; simp [rMid]
theorem rMid_step (xs : List (ByteArray × Int)) (n t i : Nat) : upd (rMid xs n t i) i (rMid xs n t i i + wt xs i) = rMid xs n t (i + 1) := by
  funext j
  unfold upd rMid
  by_cases hj : j = i
  · subst hj; simp
  · rw [if_neg hj]
    by_cases h2 : j < i
    · rw [if_pos h2, if_pos (by omega)]
    · rw [if_neg h2, if_neg (by omega)]
theorem rMid_turn (xs : List (ByteArray × Int)) (n t be : Nat) (hbe : bestUp (fun i => rNum xs n t i + wt xs i) n = be) :
    rowI n (upd (rMid xs n t n) be (rNum xs n t be + wt xs be - sumW xs n)) = rowI n (rNum xs n (t + 1)) := by
  unfold rowI
  congr 1
  apply List.map_congr_left
  intro j hj
  have hj : j < n := by simpa using hj
  congr 1
  show (if j = be then rNum xs n t be + wt xs be - sumW xs n else if j < n then rNum xs n t j + wt xs j else rNum xs n t j) =
    (if j = bestUp (fun i => rNum xs n t i + wt xs i) n then rNum xs n t j + wt xs j - sumW xs n else rNum xs n t j + wt xs j)
  rw [hbe, if_pos hj]
  by_cases hjb : j = be
  · subst hjb; simp
  · rw [if_neg hjb, if_neg hjb]
theorem rNum_bd (xs : List (ByteArray × Int)) (n : Nat) (hn : n ≤ 50) (h : ∀ j, j < n → 1 ≤ wt xs j ∧ wt xs j ≤ 100) (t j : Nat) (hj : j < n) : -((t : Int) * 6000) ≤ rNum xs n t j ∧ rNum xs n t j ≤ (t : Int) * 6000 := by
  have hs : 0 ≤ sumW xs n ∧ sumW xs n ≤ 5000 := by
    have h2 : ∀ k, k ≤ n → 0 ≤ sumW xs k ∧ sumW xs k ≤ k * 100 := by
      intro k
      induction k with
      | zero => intro _; simp [sumW]
      | succ k ih => intro hk; have := ih (by omega); have := h k (by omega); rw [sumW_succ]; omega
    have := h2 n (Nat.le_refl _)
    omega
  induction t with
  | zero => simp [rNum]
  | succ t ih =>
    have := h j hj
    unfold rNum
    split <;> omega

def roundErr (xs : List (ByteArray × Int)) (many : Int) : Int :=
  if ciFault xs ≠ 0 then ciFault xs else if outB many 0 2000 = true then 1 else if xs.length = 0 then 8 else 0
def roundOut (xs : List (ByteArray × Int)) (many : Int) : List ByteArray := if roundErr xs many = 0 then rOut xs xs.length many.toNat else []
theorem ci_ok {xs : List (ByteArray × Int)} (h : ciFault xs = 0) : xs.length ≤ 50 ∧ ∀ j, j < xs.length → keyB (ky xs j).data.toList = true ∧ (0 < j → leB (ky xs j) (ky xs (j - 1)) = false) ∧ 1 ≤ wt xs j ∧ wt xs j ≤ 100 := by
  unfold ciFault at h
  by_cases hb : 50 < xs.length
  · rw [if_pos hb] at h; omega
  · rw [if_neg hb] at h
    refine ⟨by omega, fun j hj => ?_⟩
    have hz := firstErr_zero h j hj
    unfold ciAt at hz
    by_cases h1 : keyB (ky xs j).data.toList = false
    · rw [if_pos h1] at hz; omega
    · rw [if_neg h1] at hz
      by_cases h2 : 0 < j ∧ leB (ky xs j) (ky xs (j - 1)) = true
      · rw [if_pos h2] at hz; omega
      · rw [if_neg h2] at hz
        by_cases h3 : outB (wt xs j) 1 100 = true
        · rw [if_pos h3] at hz; omega
        · refine ⟨by simpa using h1, fun h0 => ?_, outB_f (by simpa using h3)⟩
          cases hl : leB (ky xs j) (ky xs (j - 1))
          · rfl
          · exact absurd ⟨h0, hl⟩ h2

theorem elemStr : Elem Try.prog 73 9 1 16 := Elem.mk (z := .string ByteArray.empty) Try.underlying73 (by kernel_rfl) rfl (by decide)
theorem infoInt : (Try.prog.info? 3).map (fun i => (i.zero, i.size, i.bytes)) = some (some (.int .i64 0), 1, 8) := by kernel_rfl

/-- a list of strings and an error -/
def StrsP (w : World) (ys : List ByteArray) (er : Int) (e : Ending) (w' : World) : Prop :=
  ∃ A m c, e = .returned (.tuple #[.slice A m c, .int .i64 er]) ∧ Sl w' 9 1 A m (ys.map Value.string) ∧ Kp [] w w'

set_option maxHeartbeats 2000000 in
theorem round_ok (A : Option Addr) (n c : Nat) (xs : List (ByteArray × Int)) (many : Nat) (w : World) (h : Ins w A n xs) (hci : ciFault xs = 0) (hm : many ≤ 2000) (hn0 : 0 < n) :
    Calls Try.prog 75 #[.slice A n c, .int .i64 (many : Int)] w (StrsP w (rOut xs n many) 0) := by
  have H := Lib.hid h
  have hlen := h.len
  obtain ⟨hn50, hwt⟩ := ci_ok hci
  rw [hlen] at hn50 hwt
  have hbd := rNum_bd xs n hn50 (fun j hj => (hwt j hj).2.2)
  have hsb : 0 ≤ sumW xs n ∧ sumW xs n ≤ 5000 := by
    have h2 : ∀ k, k ≤ n → 0 ≤ sumW xs k ∧ sumW xs k ≤ k * 100 := by
      intro k
      induction k with
      | zero => intro _; simp [sumW]
      | succ k ih => intro hk; have := ih (by omega); have := (hwt k (by omega)).2.2; rw [sumW_succ]; omega
    have := h2 n (Nat.le_refl _)
    omega
  obtain ⟨i0, hi0, hz0, hz1, hz2⟩ := info_parts infoInt
  have hmk := fun W => make_ints (P := Try.prog) 22 3 i0 Try.underlying22 hi0 hz0 hz1 hz2 n (by omega) W
  have HC := Lib.hid hci
  have HW := Lib.hid hwt
  have HB := Lib.hid hbd
  have hout : outB (many : Int) 0 2000 = false := by unfold outB; exact decide_eq_false (by omega)
  have hne : ((n : Int) == 0) = false := by simp; omega
  clear h hlen hci hwt hbd hi0 hz0 hz1 hz2
  go_enter Try.func75, Try.ntmps75
  go_wp2_with fail
  refine (checkInstances_any A n c xs _ H.out).mono ?_
  rw [HC.out]
  rintro e w1 ⟨rfl, hk1⟩
  go_wp2_with (go_at_call 73; refine (outside_any _ _ _ _).mono ?_; rintro e w' ⟨rfl, rfl⟩)
  have h2 := (H.out.keep0 hk1).keep0 ((Kp.refl [] w1).alloc (.cells (rowI n fun x => 0) 3))
  refine (weights_any A n c xs _ h2).mono ?_
  rintro e w2 ⟨rfl, hk2⟩
  have hb2 : Blk w2 w1.heap.size 3 (rowI n fun x => 0) := hk2.blk0 (Blk.new w1 _ _)
  have hkw2 : Kp [] w w2 := (hk1.alloc _).tr hk2
  have hg0 : w.heap.size ≤ w1.heap.size := hk1.size
  generalize w1.heap.size = gN at *
  have HB2 := Lib.hid hb2
  clear hb2 h2 hk2 hmk hk1
  go_wp2_with fail
  go_loopw [9, 29] (fun v i wr => ∃ t : Nat, t ≤ many ∧ i = .int .i64 t ∧ wr.ownsRow w.heap.size 9 1 v t ((rOut xs n t).map Value.string) ∧ Blk wr gN 3 (rowI n (rNum xs n t)) ∧ Kp [] w wr) (fun _ i _ => many - (intOf i).toNat)
  case atStart => exact ⟨0, Nat.zero_le _, rfl, own_nil, HB2.out, hkw2⟩
  case round =>
    obtain ⟨t, ht, rfl, hown, hblk, hkp⟩ := hrel
    obtain ⟨wo, rfl⟩ : ∃ wo : World, wo = wr := ⟨_, rfl⟩
    by_cases hlt : t < many
    · have HO := Lib.hid hown
      have HBk := Lib.hid hblk
      clear hown hblk HB2 hkw2
      go_wp2_with fail
      go_loopw [10, 33] (fun b i wr => ∃ k : Nat, k ≤ n ∧ i = .int .i64 k ∧ b = .int .i64 (bestUp (fun i => rNum xs n t i + wt xs i) k : Nat) ∧ Blk wr gN 3 (rowI n (rMid xs n t k)) ∧ wr.ownsRow w.heap.size 9 1 u9 t ((rOut xs n t).map Value.string) ∧ Kp [] w wr) (fun _ i _ => n - (intOf i).toNat)
      case atStart => exact ⟨0, Nat.zero_le _, rfl, rfl, by rw [rMid_zero]; exact HBk.out, HO.out, hkp⟩
      case round =>
        obtain ⟨k, hk, rfl, rfl, hblk, hown, hkp2⟩ := hrel
        have hbl := bestUp_le (fun i => rNum xs n t i + wt xs i) k
        have hgr : gN < wr.heap.size := hblk.lt
        by_cases hlk : k < n
        · obtain ⟨b, off, rfl, hbb, c1, c2⟩ := (H.out.keep0 hkp2).at_ hlk
          have hw1 := (HW.out k hlk).2.2
          have hnb := HB.out t k hlk
          have hbk : bestUp (fun i => rNum xs n t i + wt xs i) k < n := by omega
          have e1 : rMid xs n t k k = rNum xs n t k := by simp [rMid]
          have n1 : wr.cell? ⟨gN, k, none⟩ = some (.int .i64 (rNum xs n t k)) := by rw [hblk.cell k, rowI_get n _ k hlk, e1]
          have f1 : wr.frozen? ⟨gN, k, none⟩ = false := hblk.frozen k
          have HBl := Lib.hid hblk
          have HOw := Lib.hid hown
          have E1 := Lib.hid e1
          clear hblk hown e1
          go_wp2_with fail
          go_region
          go_wp2_with fail
          have hbn : Blk (wr.setCell ⟨gN, k, none⟩ (.int .i64 (rNum xs n t k + wt xs k))) gN 3 (rowI n (rMid xs n t (k + 1))) := by
            have := HBl.out.set_ k (.int .i64 (rNum xs n t k + wt xs k))
            rw [rowI_set, ← E1.out, rMid_step] at this
            rw [E1.out] at this
            exact this
          have hon : (wr.setCell ⟨gN, k, none⟩ (.int .i64 (rNum xs n t k + wt xs k))).ownsRow w.heap.size 9 1 u9 t ((rOut xs n t).map Value.string) := own_kp1 HOw.out HBl.out (by decide) ((Kp.refl _ _).set_ (.inl (by simp)) _)
          have hkn : Kp [] w (wr.setCell ⟨gN, k, none⟩ (.int .i64 (rNum xs n t k + wt xs k))) := hkp2.set_ (.inr hg0) _
          have hgn : gN < (wr.setCell ⟨gN, k, none⟩ (.int .i64 (rNum xs n t k + wt xs k))).heap.size := hbn.lt
          generalize wr.setCell ⟨gN, k, none⟩ (.int .i64 (rNum xs n t k + wt xs k)) = wn at *
          have n2 : wn.cell? ⟨gN, k, none⟩ = some (.int .i64 (rNum xs n t k + wt xs k)) := by rw [hbn.cell k, rowI_get n _ k hlk]; simp [rMid]
          have n3 : wn.cell? ⟨gN, bestUp (fun i => rNum xs n t i + wt xs i) k, none⟩ = some (.int .i64 (rNum xs n t (bestUp (fun i => rNum xs n t i + wt xs i) k) + wt xs (bestUp (fun i => rNum xs n t i + wt xs i) k))) := by
            rw [hbn.cell _, rowI_get n _ _ hbk]; simp [rMid]; omega
          have hst : bestUp (fun i => rNum xs n t i + wt xs i) (k + 1) = (if rNum xs n t (bestUp (fun i => rNum xs n t i + wt xs i) k) + wt xs (bestUp (fun i => rNum xs n t i + wt xs i) k) < rNum xs n t k + wt xs k then k else bestUp (fun i => rNum xs n t i + wt xs i) k) := rfl
          have HST := Lib.hid hst
          have HBn := Lib.hid hbn
          have HOn := Lib.hid hon
          clear hst hbn hon n1 f1
          generalize hbe : bestUp (fun i => rNum xs n t i + wt xs i) k = be at *
          have HBE := Lib.hid hbe
          clear hbe
          go_quiet (fail)
          go_wp2_with fail
          all_goals
            exact ⟨⟨k + 1, by omega, by go_num, by rw [HST.out]; first | rw [if_pos (by omega)] | rw [if_neg (by omega)], (HBn.out.alloc _).drewN _, own_kp0 HOn.out (((Kp.refl _ _).alloc _).drewN _), (hkn.alloc _).drewN _⟩, by simp [intOf]; omega⟩
        · obtain rfl : k = n := by omega
          have hbk : bestUp (fun i => rNum xs k t i + wt xs i) k < k := by omega
          generalize hbe : bestUp (fun i => rNum xs k t i + wt xs i) k = be at *
          obtain ⟨b, off, rfl, hbb, c1, c2⟩ := (H.out.keep0 hkp2).at_ hbk
          have hbg : ¬ b = gN := by simpa using (H.out.keep0 hkp2).1.away_blk (by omega) hblk (by decide) _ rfl
          have hgb : ¬ gN = b := fun e => hbg e.symm
          have hw1 := (HW.out be hbk).2.2
          have hnb := HB.out t be hbk
          have e1 : rMid xs k t k be = rNum xs k t be + wt xs be := by simp [rMid, hbk]
          have n1 : wr.cell? ⟨gN, be, none⟩ = some (.int .i64 (rNum xs k t be + wt xs be)) := by rw [hblk.cell be, rowI_get k _ be hbk, e1]
          have f1 : wr.frozen? ⟨gN, be, none⟩ = false := hblk.frozen be
          have HBl := Lib.hid hblk
          have HOw := Lib.hid hown
          have E1 := Lib.hid e1
          have HBE := Lib.hid hbe
          have hbn : Blk (wr.setCell ⟨gN, be, none⟩ (.int .i64 (rNum xs k t be + wt xs be - sumW xs k))) gN 3 (rowI k (rNum xs k (t + 1))) := by
            have := HBl.out.set_ be (.int .i64 (rNum xs k t be + wt xs be - sumW xs k))
            rw [rowI_set] at this
            have e2 := rMid_turn xs k t be HBE.out
            rw [e2] at this
            exact this
          have hon : (wr.setCell ⟨gN, be, none⟩ (.int .i64 (rNum xs k t be + wt xs be - sumW xs k))).ownsRow w.heap.size 9 1 u9 t ((rOut xs k t).map Value.string) := own_kp1 HOw.out HBl.out (by decide) ((Kp.refl _ _).set_ (.inl (by simp)) _)
          have hkn : Kp [] w (wr.setCell ⟨gN, be, none⟩ (.int .i64 (rNum xs k t be + wt xs be - sumW xs k))) := hkp2.set_ (.inr hg0) _
          have hro := rOut_succ xs k t
          have hrb : rBest xs k t = be := HBE.out
          rw [hrb] at hro
          have HRO := Lib.hid hro
          have HBn := Lib.hid hbn
          have HOn := Lib.hid hon
          clear hblk hown e1 hbe hbn hon hro hrb
          go_wp2_with (at_builtin; refine app1 _ [.string (ky xs be)] rfl (.tmp 64) (.tmp 70) 73 9 1 16 rfl elemStr w.heap.size u9 t _ rfl HOn.out _ _ rfl ?c0 rfl ?c1 ?c2 ?c3 ?c4 _ rfl ?_)
          case c0 => simp
          case c1 => intro u hu; simp at hu; subst hu; rfl
          case c2 => omega
          case c3 => omega
          case c4 => exact hkn.size
          intro v' w' ho' hg' hb'
          have hbn' := HBn.out.grown hg' (own_blk_ne HOn.out HBn.out (by decide))
          have hkn' := own_grown HOn.out hg' hkn (Nat.le_refl _)
          clear hg' hb'
          go_wp2_with fail
          exact ⟨⟨t + 1, by omega, by go_num, by rw [HRO.out, List.map_append]; exact ho', hbn', hkn'⟩, by simp [intOf]; omega⟩
    · go_wp2_with fail
      obtain ⟨A', c', rfl⟩ := own_form hown
      go_ret2
      obtain rfl : t = many := by omega
      exact ⟨A', t, c', rfl, Sl.of_own hown, hkp⟩

set_option maxHeartbeats 1000000 in
/-- slices.Equal of two equal lists of strings -/
theorem equalStr_same (A A' : Option Addr) (n n' c c' : Nat) (xs : List ByteArray) (w : World) (h : Sl w 9 1 A n (xs.map Value.string)) (h' : Sl w 9 1 A' n' (xs.map Value.string)) (hn : n ≤ 1000000) :
    Calls Try.prog 47 #[.slice A n c, .slice A' n' c'] w fun e w' => e = .returned (.bool true) ∧ Kp [] w w' := by
  have e1 := h.len
  have e2 := h'.len
  obtain rfl : n = n' := by rw [← e1, ← e2]
  have H := Lib.hid h
  have H' := Lib.hid h'
  have hb0 : ((n : Int) != (n : Int)) = false := by simp
  clear h h' e1 e2
  go_enter Try.func47, Try.ntmps47
  go_wp2_with fail
  go_loopw [13] (fun i wr => ∃ k : Nat, k ≤ n ∧ i = .int .i64 k ∧ Kp [] w wr) (fun i _ => n - (intOf i).toNat)
  case atStart => exact ⟨0, Nat.zero_le _, rfl, Kp.refl _ _⟩
  case round =>
    obtain ⟨k, hk, rfl, hkp⟩ := hrel
    by_cases hlt : k < n
    · obtain ⟨b, off, rfl, hbl, u, hu, hc⟩ := (H.out.keep0 hkp).at_ (k := k) (by omega)
      obtain ⟨b', off', rfl, hbl', u', hu', hc'⟩ := (H'.out.keep0 hkp).at_ (k := k) (by omega)
      rw [hu] at hu'
      injection hu' with hu'
      subst hu'
      obtain ⟨z, rfl⟩ : ∃ z, u = .string z := by
        rw [List.getElem?_map] at hu
        cases hz : xs[k]? with
        | none => rw [hz] at hu; cases hu
        | some z => rw [hz] at hu; injection hu with hu; exact ⟨z, hu.symm⟩
      have hkn : (k : Int) < (n : Int) := by omega
      clear hu
      go_wp2_with fail
      go_quiet (fail)
      go_wp2_with fail
      exact ⟨⟨k + 1, by omega, by go_num, hkp.drewN _⟩, by simp [intOf]; omega⟩
    · go_wp2_with fail
      go_ret
      exact ⟨rfl, hkp⟩

def balIns : List (ByteArray × Int) := [(⟨#[97]⟩, 1), (⟨#[98]⟩, 2)]
theorem balIns_ok : ciFault balIns = 0 := by decide +kernel
theorem balIns_out : rOut balIns 2 3 = [⟨#[98]⟩, ⟨#[97]⟩, ⟨#[98]⟩] := by rfl

set_option maxHeartbeats 1000000 in
theorem balanced_any (w : World) : Calls Try.prog 12 #[] w fun e w' => e = .returned (.bool true) ∧ Kp [] w w' := by
  have hblk := Blk.new w 114 #[.string ⟨#[97]⟩, .int .i64 1, .string ⟨#[98]⟩, .int .i64 2]
  have hins : Ins (w.alloc (.cells #[.string ⟨#[97]⟩, .int .i64 1, .string ⟨#[98]⟩, .int .i64 2] 114)) (some ⟨w.heap.size, 0, none⟩) 2 balIns := by
    refine ⟨Sl.of_blk (n := 2) (size := 2) hblk rfl, by omega, ?_⟩
    intro p hp
    simp only [balIns, List.mem_cons, List.not_mem_nil, or_false] at hp
    rcases hp with rfl | rfl
    · exact ⟨by decide, by decide, by decide⟩
    · exact ⟨by decide, by decide, by decide⟩
  have HI := Lib.hid hins
  clear hblk hins
  go_enter Try.func12, Try.ntmps12
  go_wp2_with fail
  refine (round_ok _ 2 _ balIns 3 _ HI.out balIns_ok (by omega) (by omega)).mono ?_
  rintro e w1 ⟨A, m, c, rfl, hsl, hk⟩
  rw [balIns_out] at hsl
  have HS := Lib.hid hsl
  have hml := hsl.len
  simp only [List.length_map, List.length_cons, List.length_nil] at hml
  have hm3 : m ≤ 1000000 := by omega
  have HM := Lib.hid hml
  clear hsl hml
  go_wp2_with fail
  have hb2 := Blk.new w1 9 #[.string ⟨#[98]⟩, .string ⟨#[97]⟩, .string ⟨#[98]⟩]
  have hs2 : Sl (w1.alloc (.cells #[.string ⟨#[98]⟩, .string ⟨#[97]⟩, .string ⟨#[98]⟩] 9)) 9 1 (some ⟨w1.heap.size, 0, none⟩) 3 (([⟨#[98]⟩, ⟨#[97]⟩, ⟨#[98]⟩] : List ByteArray).map Value.string) := Sl.of_blk (n := 3) (size := 1) hb2 rfl
  refine (equalStr_same A _ m 3 c _ [⟨#[98]⟩, ⟨#[97]⟩, ⟨#[98]⟩] _ (HS.out.alloc _) hs2 hm3).mono ?_
  rintro e w2 ⟨rfl, hk2⟩
  go_wp2_with fail
  go_ret
  exact ⟨rfl, (((Kp.refl [] w).alloc _).tr hk).tr (((Kp.refl [] w1).alloc _).tr hk2)⟩
end Go.Proofs.Ytmcegaabopcmfaa
