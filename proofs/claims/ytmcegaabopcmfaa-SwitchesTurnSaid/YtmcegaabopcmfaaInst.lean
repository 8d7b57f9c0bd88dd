/- Instances: slices of a key and a weight; their sum of weights, their check, the smooth round. -/
import Derived.Test.YtmcegaabopcmfaaRows
import Derived.Test.YtmcegaabopcmfaaWords
import Derived.Test.YtmcegaabopcmfaaKit
namespace Go.Proofs.Ytmcegaabopcmfaa
open Go.RowKit
set_option linter.unusedVariables false

def insts (xs : List (ByteArray × Int)) : List Value := xs.flatMap fun p => [.string p.1, .int .i64 p.2]
def ky (xs : List (ByteArray × Int)) (k : Nat) : ByteArray := (xs.getD k (ByteArray.empty, 0)).1
def wt (xs : List (ByteArray × Int)) (k : Nat) : Int := (xs.getD k (ByteArray.empty, 0)).2

theorem insts_len (xs : List (ByteArray × Int)) : (insts xs).length = xs.length * 2 := by
  induction xs with
  | nil => rfl
  | cons p xs ih => simp only [insts, List.flatMap_cons, List.length_append] at ih ⊢; simp only [List.length_cons, List.length_nil]; omega
theorem insts_at (xs : List (ByteArray × Int)) (k : Nat) (hk : k < xs.length) :
    (insts xs)[k * 2]? = some (.string (ky xs k)) ∧ (insts xs)[k * 2 + 1]? = some (.int .i64 (wt xs k)) := by
  induction xs generalizing k with
  | nil => simp at hk
  | cons p xs ih =>
    cases k with
    | zero => exact ⟨rfl, rfl⟩
    | succ k =>
      have h := ih k (by simpa using hk)
      have e1 : (k + 1) * 2 = k * 2 + 1 + 1 := by omega
      have e2 : (k + 1) * 2 + 1 = k * 2 + 1 + 1 + 1 := by omega
      rw [e2, e1]
      exact h

/-- a slice of instances: they are xs -/
def Ins (w : World) (A : Option Addr) (n : Nat) (xs : List (ByteArray × Int)) : Prop :=
  Sl w 114 2 A n (insts xs) ∧ n ≤ 1000 ∧ ∀ p, p ∈ xs → p.1.size ≤ 1000 ∧ -1099511627776 ≤ p.2 ∧ p.2 ≤ 1099511627776

section
variable {w w' : World} {A : Option Addr} {n : Nat} {xs : List (ByteArray × Int)}
theorem Ins.len (h : Ins w A n xs) : xs.length = n := by have h1 := h.1.1; rw [insts_len] at h1; omega
theorem Ins.at_ (h : Ins w A n xs) {k : Nat} (hk : k < n) : ∃ b off, A = some ⟨b, off, none⟩ ∧ b < w.heap.size ∧ w.cell? ⟨b, off + k * 2, none⟩ = some (.string (ky xs k)) ∧ w.cell? ⟨b, off + k * 2 + 1, none⟩ = some (.int .i64 (wt xs k)) := by
  have hl := h.len
  obtain ⟨b, off, e1, hb, u, hu, hc⟩ := h.1.at_ (k := k * 2) (by omega)
  obtain ⟨b', off', e2, _, u', hu', hc'⟩ := h.1.at_ (k := k * 2 + 1) (by omega)
  rw [e1] at e2
  injection e2 with e2
  injection e2 with ea eb
  subst ea eb
  obtain ⟨h1, h2⟩ := insts_at xs k (by omega)
  rw [h1] at hu
  rw [h2] at hu'
  injection hu with hu
  injection hu' with hu'
  subst hu hu'
  exact ⟨b, off, e1, hb, hc, by rw [← Nat.add_assoc] at hc'; exact hc'⟩
theorem Ins.rng (h : Ins w A n xs) {k : Nat} (hk : k < n) : (ky xs k).size ≤ 1000 ∧ -1099511627776 ≤ wt xs k ∧ wt xs k ≤ 1099511627776 := by
  have hl := h.len
  have hm : xs.getD k (ByteArray.empty, 0) ∈ xs := by
    rw [List.getD_eq_getElem?_getD, List.getElem?_eq_getElem (by omega)]
    exact List.getElem_mem _
  exact h.2.2 _ hm
theorem Ins.keep0 (h : Ins w A n xs) (hk : Kp [] w w') : Ins w' A n xs := ⟨h.1.keep0 hk, h.2⟩
theorem Ins.keep1 (h : Ins w A n xs) {g : Nat} {t : TypeId} {cs : Array Value} (hb : Blk w g t cs) (ht : 114 ≠ t) (hk : Kp [g] w w') : Ins w' A n xs := ⟨h.1.keep1 hb ht hk, h.2⟩
end

def sumW (xs : List (ByteArray × Int)) (k : Nat) : Int := ((List.range k).map (wt xs)).sum
theorem sumW_succ (xs : List (ByteArray × Int)) (k : Nat) : sumW xs (k + 1) = sumW xs k + wt xs k := by
  unfold sumW; rw [List.range_succ, List.map_append, List.sum_append]; simp
theorem sumW_bd (xs : List (ByteArray × Int)) (n k : Nat) (h : ∀ j, j < n → -1099511627776 ≤ wt xs j ∧ wt xs j ≤ 1099511627776) (hk : k ≤ n) : -(k * 1099511627776) ≤ sumW xs k ∧ sumW xs k ≤ k * 1099511627776 := by
  induction k with
  | zero => simp [sumW]
  | succ k ih =>
    have h1 := ih (by omega)
    have h2 := h k (by omega)
    rw [sumW_succ]
    omega

set_option maxHeartbeats 400000 in
theorem weights_any (A : Option Addr) (n c : Nat) (xs : List (ByteArray × Int)) (w : World) (h : Ins w A n xs) :
    Calls Try.prog 118 #[.slice A n c] w fun e w' => e = .returned (.int .i64 (sumW xs n)) ∧ Kp [] w w' := by
  have H := Lib.hid h
  have hn := h.2.1
  have hbd := fun k hk => sumW_bd xs n k (fun j hj => (h.rng hj).2) hk
  have HB := Lib.hid hbd
  clear h hbd
  go_enter Try.func118, Try.ntmps118
  go_wp2
  go_loopw [3, 8] (fun t i wr => ∃ k : Nat, k ≤ n ∧ i = .int .i64 k ∧ t = .int .i64 (sumW xs k) ∧ Kp [] w wr) (fun _ i _ => n - (intOf i).toNat)
  case atStart => exact ⟨0, Nat.zero_le _, rfl, rfl, Kp.refl _ _⟩
  case round =>
    obtain ⟨k, hk, rfl, rfl, hkp⟩ := hrel
    have hb1 := HB.out k hk
    by_cases hlt : k < n
    · obtain ⟨b, off, rfl, hbl, c1, c2⟩ := (H.out.keep0 hkp).at_ hlt
      have hr := (H.out.rng hlt).2
      go_wp2
      exact ⟨⟨k + 1, by omega, by go_num, by rw [sumW_succ], hkp.alloc _⟩, by simp [intOf]; omega⟩
    · obtain rfl : k = n := by omega
      go_wp2
      go_ret
      exact ⟨rfl, hkp⟩
/-- the first error of n things -/
def firstErr (f : Nat → Int) : Nat → Int
  | 0 => 0
  | n + 1 => if firstErr f n = 0 then f n else firstErr f n
theorem firstErr_zero {f : Nat → Int} {n : Nat} (h : firstErr f n = 0) : ∀ k, k < n → f k = 0 := by
  induction n with
  | zero => intro k hk; omega
  | succ n ih =>
    intro k hk
    unfold firstErr at h
    by_cases h0 : firstErr f n = 0
    · rw [if_pos h0] at h
      rcases Nat.lt_or_ge k n with hl | hl
      · exact ih h0 k hl
      · obtain rfl : k = n := by omega
        exact h
    · rw [if_neg h0] at h
      exact absurd h h0
theorem firstErr_hit {f : Nat → Int} {k : Nat} (h : firstErr f k = 0) (hf : f k ≠ 0) : ∀ n, k < n → firstErr f n = f k := by
  intro n hn
  induction n with
  | zero => omega
  | succ n ih =>
    rcases Nat.lt_or_ge k n with hl | hl
    · have := ih hl
      unfold firstErr
      rw [if_neg (by rw [this]; exact hf), this]
    · obtain rfl : k = n := by omega
      unfold firstErr
      rw [if_pos h]
theorem firstErr_step {f : Nat → Int} {k : Nat} (h : firstErr f k = 0) (hf : f k = 0) : firstErr f (k + 1) = 0 := by
  unfold firstErr; rw [if_pos h]; exact hf
theorem firstErr_congr {f g : Nat → Int} (n : Nat) (h : ∀ k, k < n → (∀ j, j < k → f j = 0) → f k = g k) : firstErr f n = firstErr g n := by
  induction n with
  | zero => rfl
  | succ n ih =>
    have h1 := ih fun k hk => h k (by omega)
    unfold firstErr
    rw [h1]
    by_cases h0 : firstErr g n = 0
    · rw [if_pos h0, if_pos h0]
      exact h n (by omega) (firstErr_zero (h1.trans h0))
    · rw [if_neg h0, if_neg h0]

/-- a string is not greater than another one -/
def leB (a b : ByteArray) : Bool := Op.bytesLess a.toList b.toList || a.toList == b.toList

def ciAt (xs : List (ByteArray × Int)) (k : Nat) : Int :=
  if keyB (ky xs k).data.toList = false then 5 else if 0 < k ∧ leB (ky xs k) (ky xs (k - 1)) = true then 7 else if outB (wt xs k) 1 100 = true then 1 else 0
def ciFault (xs : List (ByteArray × Int)) : Int := if 50 < xs.length then 2 else firstErr (ciAt xs) xs.length

set_option maxHeartbeats 1000000 in
theorem checkInstances_any (A : Option Addr) (n c : Nat) (xs : List (ByteArray × Int)) (w : World) (h : Ins w A n xs) :
    Calls Try.prog 38 #[.slice A n c] w fun e w' => e = .returned (.int .i64 (ciFault xs)) ∧ Kp [] w w' := by
  have H := Lib.hid h
  have hn := h.2.1
  have hlen := h.len
  by_cases hbig : 50 < n
  · have hf : ciFault xs = 2 := by unfold ciFault; rw [hlen, if_pos hbig]
    have HF := Lib.hid hf
    clear h hlen hf
    go_enter Try.func38, Try.ntmps38
    go_wp2
    go_ret
    exact ⟨ret_int HF.out.symm, Kp.refl _ _⟩
  · have hf : ciFault xs = firstErr (ciAt xs) n := by unfold ciFault; rw [hlen, if_neg hbig]
    have HF := Lib.hid hf
    clear h hlen hf
    have hd : decide (50 < (n : Int)) = false := by simp; omega
    go_enter Try.func38, Try.ntmps38
    go_wp2
    go_loopw [10] (fun i wr => ∃ k : Nat, k ≤ n ∧ i = .int .i64 k ∧ firstErr (ciAt xs) k = 0 ∧ Kp [] w wr) (fun i _ => n - (intOf i).toNat)
    case atStart => exact ⟨0, Nat.zero_le _, rfl, rfl, Kp.refl _ _⟩
    case round =>
      obtain ⟨k, hk, rfl, hup, hkp⟩ := hrel
      have HU := Lib.hid hup
      clear hup
      by_cases hlt : k < n
      · obtain ⟨b, off, rfl, hbl, c1, c2⟩ := (H.out.keep0 hkp).at_ hlt
        obtain ⟨hr0, hr1, hr2⟩ := H.out.rng hlt
        have hr00 : (ky xs k).size ≤ maxLen := by unfold maxLen; omega
        have hci : ciAt xs k = (if keyB (ky xs k).data.toList = false then 5 else if 0 < k ∧ leB (ky xs k) (ky xs (k - 1)) = true then 7 else if outB (wt xs k) 1 100 = true then 1 else 0) := rfl
        have HC := Lib.hid hci
        clear hci
        cases hkey : keyB (ky xs k).data.toList
        · have hfin : ciFault xs = 5 := by
            have e1 : ciAt xs k = 5 := by rw [HC.out, if_pos hkey]
            rw [HF.out, firstErr_hit HU.out (by rw [e1]; decide) n hlt, e1]
          have HX := Lib.hid hfin
          clear hfin
          go_wp2_with (go_at_call 92; refine (isKey_any _ _ hr00).mono ?_; rintro e w' ⟨rfl, rfl⟩)
          go_ret
          exact ⟨ret_int HX.out.symm, hkp.alloc _⟩
        · by_cases hk0 : 0 < k
          · obtain ⟨b', off', hA, _, c3, _⟩ := (H.out.keep0 hkp).at_ (k := k - 1) (by omega)
            injection hA with hA
            injection hA with hA1 hA2
            subst hA1 hA2
            have hd0 : decide (0 < (k : Int)) = true := by simp; omega
            have hi1 : IntKind.i64.wrap ((k : Int) - 1) = (k : Int) - 1 := IntWalk.i64_in _ (by omega)
            have hi2 : 0 ≤ (k : Int) - 1 := by omega
            have hi3 : ((k : Int) - 1).toNat = k - 1 := by omega
            have hi4 : (k : Int) - 1 < (n : Int) := by omega
            have HI3 := Lib.hid hi3
            cases hle : leB (ky xs k) (ky xs (k - 1))
            · have hle' : (Op.bytesLess (ky xs k).toList (ky xs (k - 1)).toList || (ky xs k).toList == (ky xs (k - 1)).toList) = false := hle
              have HL := Lib.hid hle
              clear hle
              go_wp2_with (go_at_call 92; refine (isKey_any _ _ hr00).mono ?_; rintro e w' ⟨rfl, rfl⟩)
              go_quiet (fail)
              clear hi1 hi2 hi3 hi4
              cases ho : outB (wt xs k) 1 100
              · have hfin : firstErr (ciAt xs) (k + 1) = 0 := firstErr_step HU.out (by rw [HC.out, if_neg (by rw [hkey]; decide), if_neg (by rw [HL.out]; simp), if_neg (by rw [ho]; decide)])
                have HX := Lib.hid hfin
                clear hfin
                go_wp2_with (go_at_call 73; refine (outside_any _ _ _ _).mono ?_; rintro e w' ⟨rfl, rfl⟩)
                exact ⟨⟨k + 1, by omega, by go_num, HX.out, (hkp.alloc _).drewN _⟩, by simp [intOf]; omega⟩
              · have hfin : ciFault xs = 1 := by
                  have e1 : ciAt xs k = 1 := by rw [HC.out, if_neg (by rw [hkey]; decide), if_neg (by rw [HL.out]; simp), if_pos ho]
                  rw [HF.out, firstErr_hit HU.out (by rw [e1]; decide) n hlt, e1]
                have HX := Lib.hid hfin
                clear hfin
                go_wp2_with (go_at_call 73; refine (outside_any _ _ _ _).mono ?_; rintro e w' ⟨rfl, rfl⟩)
                go_ret
                exact ⟨ret_int HX.out.symm, (hkp.alloc _).drewN _⟩
            · have hle' : (Op.bytesLess (ky xs k).toList (ky xs (k - 1)).toList || (ky xs k).toList == (ky xs (k - 1)).toList) = true := hle
              have hfin : ciFault xs = 7 := by
                have e1 : ciAt xs k = 7 := by rw [HC.out, if_neg (by rw [hkey]; decide), if_pos ⟨hk0, hle⟩]
                rw [HF.out, firstErr_hit HU.out (by rw [e1]; decide) n hlt, e1]
              have HX := Lib.hid hfin
              clear hfin hle
              go_wp2_with (go_at_call 92; refine (isKey_any _ _ hr00).mono ?_; rintro e w' ⟨rfl, rfl⟩)
              go_quiet (fail)
              clear hi1 hi2 hi3 hi4
              go_wp2_with fail
              go_ret
              exact ⟨ret_int HX.out.symm, (hkp.alloc _).drewN _⟩
          · have hd0 : decide (0 < (k : Int)) = false := by simp; omega
            go_wp2_with (go_at_call 92; refine (isKey_any _ _ hr00).mono ?_; rintro e w' ⟨rfl, rfl⟩)
            go_quiet (fail)
            cases ho : outB (wt xs k) 1 100
            · have hfin : firstErr (ciAt xs) (k + 1) = 0 := firstErr_step HU.out (by rw [HC.out, if_neg (by rw [hkey]; decide), if_neg (by omega), if_neg (by rw [ho]; decide)])
              have HX := Lib.hid hfin
              clear hfin
              go_wp2_with (go_at_call 73; refine (outside_any _ _ _ _).mono ?_; rintro e w' ⟨rfl, rfl⟩)
              exact ⟨⟨k + 1, by omega, by go_num, HX.out, (hkp.alloc _).drewN _⟩, by simp [intOf]; omega⟩
            · have hfin : ciFault xs = 1 := by
                have e1 : ciAt xs k = 1 := by rw [HC.out, if_neg (by rw [hkey]; decide), if_neg (by omega), if_pos ho]
                rw [HF.out, firstErr_hit HU.out (by rw [e1]; decide) n hlt, e1]
              have HX := Lib.hid hfin
              clear hfin
              go_wp2_with (go_at_call 73; refine (outside_any _ _ _ _).mono ?_; rintro e w' ⟨rfl, rfl⟩)
              go_ret
              exact ⟨ret_int HX.out.symm, (hkp.alloc _).drewN _⟩
      · obtain rfl : k = n := by omega
        go_wp2
        go_ret
        exact ⟨ret_int (by rw [HF.out, HU.out]), hkp⟩
end Go.Proofs.Ytmcegaabopcmfaa
