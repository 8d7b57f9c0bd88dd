/- slices.DeleteFunc over a row of numbers of the call's own, with the breaker's predicate. -/
import Derived.Test.YtmcegaabopcmfaaSwM
import Derived.Lib.SliceRun
namespace Go.Proofs.Ytmcegaabopcmfaa
open Go.RowKit
set_option linter.unusedVariables false

theorem Blk.setCells {t : TypeId} {g : Nat} : ∀ (vs : List Value) (o : Nat) (w : World) (cs : Array Value), Blk w g t cs →
    ∃ cs', Blk (w.setCells g o vs) g t cs' ∧ cs'.size = cs.size ∧ ∀ q, q < o → cs'[q]? = cs[q]?
  | [], o, w, cs, h => ⟨cs, h, rfl, fun _ _ => rfl⟩
  | v :: r, o, w, cs, h => by
    obtain ⟨cs', h1, h2, h3⟩ := Blk.setCells r (o + 1) (w.setCell ⟨g, o, none⟩ v) _ (h.set_ o v)
    refine ⟨cs', h1, by simpa using h2, fun q hq => ?_⟩
    rw [h3 q (by omega), Array.getElem?_setIfInBounds, if_neg (by omega)]
theorem Kp.setCells {S : List Nat} {g : Nat} (hg : g ∈ S) : ∀ (vs : List Value) (o : Nat) (a w : World), Kp S a w → Kp S a (w.setCells g o vs)
  | [], o, a, w, h => h
  | v :: r, o, a, w, h => Kp.setCells hg r (o + 1) a _ (h.set_ (.inl hg) v)

/-- what the predicate of Tell reads -/
structure DelEnv (W : World) (ga gs g : Nat) (b : Brk) (t : Int) : Prop where
  at_ : W.cell? ⟨ga, 0, none⟩ = some (.int .i64 t)
  sw : W.cell? ⟨gs, 0, none⟩ = some (.pointer (some ⟨g, 0, none⟩))
  win : W.cell? ⟨g, 1, none⟩ = some (.int .i64 b.window)

def delP (b : Brk) (t m : Int) : Bool := decide (m ≤ t - b.window)

set_option maxHeartbeats 400000 in
theorem tellDel_any (ga gs g : Nat) (b : Brk) (t m : Int) (W : World) (h : DelEnv W ga gs g b t) (hb : BrkOk b) (ht : 0 ≤ t) (ht2 : t < 345686400000) :
    Calls Try.prog 83 #[.int .i64 m, .pointer (some ⟨ga, 0, none⟩), .pointer (some ⟨gs, 0, none⟩)] W
      fun e w' => e = .returned (.bool (delP b t m)) ∧ ∃ n, w' = W.drewN n := by
  obtain ⟨h1, h2, h3⟩ := h
  obtain ⟨_, _, b3, b4, _⟩ := hb
  have hw1 : IntKind.i64.wrap (t - b.window) = t - b.window := IntWalk.i64_in _ (by omega)
  go_enter Try.func83, Try.ntmps83
  go_wp2_with fail
  go_quiet (fail)
  go_wp2_with fail
  go_ret
  exact ⟨rfl, _, rfl⟩

def IdxP (w : World) (p : Int → Bool) (xs : List Int) (e : Ending) (w' : World) : Prop :=
  (∃ n, w' = w.drewN n) ∧ ((e = .returned (.int .i64 (-1)) ∧ ∀ j, j < xs.length → p (xs.getD j 0) = false) ∨
    ∃ k, k < xs.length ∧ e = .returned (.int .i64 (k : Int)) ∧ p (xs.getD k 0) = true ∧ ∀ j, j < k → p (xs.getD j 0) = false)

set_option maxHeartbeats 1000000 in
theorem indexFunc_tell (ga gs g : Nat) (b : Brk) (t : Int) (w : World) (h : DelEnv w ga gs g b t) (hb : BrkOk b) (ht : 0 ≤ t) (ht2 : t < 345686400000)
    (gb n cap : Nat) (xs : List Int) (hn : xs.length = n) (hn2 : n ≤ 100000) (hc : ∀ j, j < n → w.cell? ⟨gb, j, none⟩ = some (.int .i64 (xs.getD j 0))) :
    Calls Try.prog 119 #[.slice (some ⟨gb, 0, none⟩) n cap, .func (.func 83) #[] #[.pointer (some ⟨ga, 0, none⟩), .pointer (some ⟨gs, 0, none⟩)]] w (IdxP w (delP b t) xs) := by
  have HE := Lib.hid h
  have HC := Lib.hid hc
  have HN := Lib.hid hn
  clear h hc hn
  go_enter Try.func119, Try.ntmps119
  go_wp2_with fail
  go_loopw [8] (fun i wr => ∃ k m : Nat, k ≤ n ∧ i = .int .i64 k ∧ (∀ j, j < k → delP b t (xs.getD j 0) = false) ∧ wr = w.drewN m) (fun i _ => n - (intOf i).toNat)
  case atStart => exact ⟨0, 0, Nat.zero_le _, rfl, fun j hj => absurd hj (by omega), rfl⟩
  case round =>
    obtain ⟨k, m, hk, rfl, hall, rfl⟩ := hrel
    have HA := Lib.hid hall
    clear hall
    by_cases hlt : k < n
    · have c1 : (w.drewN m).cell? ⟨gb, k, none⟩ = some (.int .i64 (xs.getD k 0)) := HC.out k hlt
      have he : DelEnv (w.drewN m) ga gs g b t := ⟨HE.out.1, HE.out.2, HE.out.3⟩
      obtain ⟨x, hx⟩ : ∃ x, xs.getD k 0 = x := ⟨_, rfl⟩
      rw [hx] at c1
      have HX := Lib.hid hx
      clear hx
      cases hp : delP b t x
      · go_wp2_with fail
        refine (tellDel_any ga gs g b t _ _ he hb ht ht2).mono ?_
        rintro e w1 ⟨rfl, m2, rfl⟩
        go_wp2_with fail
        refine ⟨⟨k + 1, m + m2, by omega, by go_num, ?_, ?_⟩, by simp [intOf]; omega⟩
        · intro j hj
          rcases Nat.lt_or_ge j k with hl | hl
          · exact HA.out j hl
          · obtain rfl : j = k := by omega
            rw [HX.out]
            exact hp
        · first | rfl | rw [World.drewN_drewN]
      · go_wp2_with fail
        refine (tellDel_any ga gs g b t _ _ he hb ht ht2).mono ?_
        rintro e w1 ⟨rfl, m2, rfl⟩
        go_wp2_with fail
        go_ret
        exact ⟨⟨m + m2, by first | rfl | rw [World.drewN_drewN]⟩, .inr ⟨k, by rw [HN.out]; exact hlt, rfl, by rw [HX.out]; exact hp, HA.out⟩⟩
    · go_wp2_with fail
      go_ret
      exact ⟨⟨m, rfl⟩, .inl ⟨rfl, fun j hj => HA.out j (by rw [HN.out] at hj; omega)⟩⟩

def kept (p : Int → Bool) (xs : List Int) (j : Nat) : List Int := (xs.take j).filter fun x => !p x
theorem kept_succ (p : Int → Bool) (xs : List Int) (j : Nat) (hj : j < xs.length) : kept p xs (j + 1) = kept p xs j ++ (if p (xs.getD j 0) = true then [] else [xs.getD j 0]) := by
  have e1 : xs.getD j 0 = xs[j] := by rw [List.getD_eq_getElem?_getD, List.getElem?_eq_getElem hj]; rfl
  unfold kept
  rw [List.take_succ_eq_append_getElem hj, List.filter_append, e1]
  cases hp : p xs[j] <;> simp [hp]
theorem kept_all (p : Int → Bool) (xs : List Int) (k : Nat) (hk : k ≤ xs.length) (h : ∀ j, j < k → p (xs.getD j 0) = false) : kept p xs k = xs.take k := by
  unfold kept
  rw [List.filter_eq_self]
  intro a ha
  obtain ⟨j, hj, rfl⟩ := List.mem_iff_getElem.1 ha
  have hj' : j < k := by simp at hj; omega
  have := h j hj'
  rw [List.getD_eq_getElem?_getD, List.getElem?_eq_getElem (by omega)] at this
  simp at this ⊢
  exact this
theorem kept_len_le (p : Int → Bool) (xs : List Int) (j : Nat) : (kept p xs j).length ≤ j := by
  unfold kept
  have := List.length_filter_le (fun x => !p x) (xs.take j)
  have := List.length_take_le j xs
  omega
theorem kept_full (p : Int → Bool) (xs : List Int) : kept p xs xs.length = xs.filter fun x => !p x := by unfold kept; rw [List.take_length]
theorem getD_append_l (a b : List Int) (q : Nat) (h : q < a.length) : (a ++ b).getD q 0 = a.getD q 0 := by
  rw [List.getD_eq_getElem?_getD, List.getD_eq_getElem?_getD, List.getElem?_append_left h]
theorem getD_append_at (a : List Int) (x : Int) : (a ++ [x]).getD a.length 0 = x := by
  rw [List.getD_eq_getElem?_getD, List.getElem?_append_right (Nat.le_refl _)]; simp

theorem zeroInt (w : World) : (zeroValue 3).run Try.prog w = .ok (.int .i64 0) w := by kernel_rfl

/-- a row of numbers: at least the first n of block gb -/
def RowN (w : World) (gb cap n : Nat) (xs : List Int) : Prop := ∃ cur, Blk w gb 3 cur ∧ cur.size = cap ∧ n ≤ cap ∧ xs.length = n ∧ ∀ j, j < n → cur[j]? = some (.int .i64 (xs.getD j 0))

def DelP (w : World) (gb cap : Nat) (ys : List Int) (e : Ending) (w' : World) : Prop :=
  e = .returned (.slice (some ⟨gb, 0, none⟩) ys.length cap) ∧ RowN w' gb cap ys.length ys ∧ Kp [gb] w w'

theorem DelEnv.kp {w w' : World} {ga gs g gb : Nat} {b : Brk} {t : Int} (h : DelEnv w ga gs g b t) (hk : Kp [gb] w w') (h1 : ga ≠ gb) (h2 : gs ≠ gb) (h3 : g ≠ gb) : DelEnv w' ga gs g b t := by
  have hc : ∀ k i v, k ≠ gb → w.cell? ⟨k, i, none⟩ = some v → w'.cell? ⟨k, i, none⟩ = some v := by
    intro k i v hne hv
    have hlt : k < w.heap.size := by
      rcases Nat.lt_or_ge k w.heap.size with hl | hl
      · exact hl
      · simp [World.cell?, Array.getElem?_eq_none hl] at hv
    rw [World.cell?_of_block (w := w) (hk.block k hlt (by simpa using hne))]
    exact hv
  exact ⟨hc _ _ _ h1 h.1, hc _ _ _ h2 h.2, hc _ _ _ h3 h.3⟩

set_option maxHeartbeats 2000000 in
theorem deleteFunc_tell (ga gs g : Nat) (b : Brk) (t : Int) (w : World) (h : DelEnv w ga gs g b t) (hb : BrkOk b) (ht : 0 ≤ t) (ht2 : t < 345686400000)
    (gb n cap : Nat) (xs : List Int) (hn2 : n ≤ 100000) (hrow : RowN w gb cap n xs) (h1 : ga ≠ gb) (h2 : gs ≠ gb) (h3 : g ≠ gb) (hcap : cap ≤ maxLen) :
    Calls Try.prog 82 #[.slice (some ⟨gb, 0, none⟩) n cap, .func (.func 83) #[] #[.pointer (some ⟨ga, 0, none⟩), .pointer (some ⟨gs, 0, none⟩)]] w
      (DelP w gb cap (xs.filter fun x => !delP b t x)) := by
  obtain ⟨cur0, hblk, hsz, hnc, hlen, hcells⟩ := hrow
  have hix := indexFunc_tell ga gs g b t w h hb ht ht2 gb n cap xs hlen hn2 (fun j hj => by rw [hblk.cell j]; exact hcells j hj)
  have HE := Lib.hid h
  have HIX := Lib.hid hix
  have HB := Lib.hid hblk
  have HC := Lib.hid hcells
  have HL := Lib.hid hlen
  have HSZ := Lib.hid hsz
  unfold maxLen at hcap
  clear h hix hblk hcells hlen hsz
  go_enter Try.func82, Try.ntmps82
  go_wp2_with fail
  refine HIX.out.mono ?_
  rintro e w1 ⟨⟨nq, rfl⟩, ⟨rfl, hno⟩ | ⟨k, hk, rfl, hyes, hno⟩⟩
  · have HNO := Lib.hid hno
    clear hno
    go_wp2_with fail
    go_ret
    have e1 : (xs.filter fun x => !delP b t x) = xs := by
      have := kept_all (delP b t) xs xs.length (Nat.le_refl _) HNO.out
      rw [kept_full] at this
      rw [this, List.take_length]
    rw [e1]
    have e2 := HL.out
    subst e2
    refine ⟨rfl, ?_, (Kp.refl _ _).drewN _⟩
    exact ⟨cur0, HB.out.drewN _, HSZ.out, hnc, HL.out, HC.out⟩
  · have hk' : k < n := by rw [HL.out] at hk; exact hk
    have hks : (kept (delP b t) xs (k + 1)) = xs.take k := by
      rw [kept_succ _ _ _ hk, if_pos hyes, List.append_nil, kept_all _ _ _ (by omega) hno]
    have HKS := Lib.hid hks
    clear hk hyes hno hks
    have hm1 : ((k : Int) == -1) = false := beq_eq_false_iff_ne.2 (by omega)
    go_wp2_with fail
    go_loopw [5, 6] (fun vi vj wr => ∃ j : Nat, k + 1 ≤ j ∧ j ≤ n ∧ vi = .int .i64 ((kept (delP b t) xs j).length : Int) ∧ vj = .int .i64 (j : Int) ∧ (kept (delP b t) xs j).length < j ∧ Kp [gb] w wr ∧
        ∃ cur, Blk wr gb 3 cur ∧ cur.size = cap ∧ (∀ q, q < (kept (delP b t) xs j).length → cur[q]? = some (.int .i64 ((kept (delP b t) xs j).getD q 0))) ∧ (∀ q, j ≤ q → q < n → cur[q]? = some (.int .i64 (xs.getD q 0)))) (fun _ vj _ => n - (intOf vj).toNat)
    case atStart =>
      have hkl : (kept (delP b t) xs (k + 1)).length = k := by rw [HKS.out, List.length_take, HL.out]; omega
      refine ⟨k + 1, by omega, by omega, by rw [hkl], by go_num, by omega, (Kp.refl _ _).drewN _, cur0, HB.out.drewN _, HSZ.out, ?_, fun q _ hq => HC.out q hq⟩
      intro q hq
      rw [hkl] at hq
      rw [HC.out q (by omega), HKS.out, List.getD_eq_getElem?_getD, List.getD_eq_getElem?_getD, List.getElem?_take, if_pos hq]
    case round =>
      obtain ⟨j, hj1, hj2, rfl, rfl, hij, hkp, cur, hblk, hsz, hc1, hc2⟩ := hrel
      have HBl := Lib.hid hblk
      have HS := Lib.hid hsz
      have H1 := Lib.hid hc1
      have H2 := Lib.hid hc2
      obtain ⟨i, hi⟩ : ∃ i, (kept (delP b t) xs j).length = i := ⟨_, rfl⟩
      rw [hi] at hij ⊢
      have HI := Lib.hid hi
      have hgl := hblk.lt
      by_cases hlt : j < n
      · have hks := kept_succ (delP b t) xs j (by rw [HL.out]; exact hlt)
        obtain ⟨x, hx⟩ : ∃ x, xs.getD j 0 = x := ⟨_, rfl⟩
        rw [hx] at hks
        have c1 : wr.cell? ⟨gb, j, none⟩ = some (.int .i64 x) := by rw [hblk.cell j, hc2 j (Nat.le_refl _) hlt, hx]
        obtain ⟨y, hy⟩ : ∃ y, wr.cell? ⟨gb, i, none⟩ = some y := ⟨_, by rw [hblk.cell i]; exact Array.getElem?_eq_getElem (by omega)⟩
        have f1 : wr.frozen? ⟨gb, i, none⟩ = false := hblk.frozen i
        have he := HE.out.kp hkp h1 h2 h3
        have HX := Lib.hid hx
        clear hx hi hblk hsz hc1 hc2
        cases hp : delP b t x
        · rw [hp] at hks
          have HK := Lib.hid hks
          clear hks
          go_wp2_with fail
          refine (tellDel_any ga gs g b t _ _ he hb ht ht2).mono ?_
          rintro e w2 ⟨rfl, m2, rfl⟩
          have hkk : kept (delP b t) xs (j + 1) = kept (delP b t) xs j ++ [x] := by rw [HK.out]; rfl
          have HKK := Lib.hid hkk
          clear hkk
          go_wp2_with fail
          have hil : (kept (delP b t) xs (j + 1)).length = i + 1 := by rw [HKK.out, List.length_append, HI.out]; rfl
          refine ⟨⟨j + 1, by omega, by omega, by rw [hil]; go_num, by go_num, by rw [hil]; omega, (hkp.drewN _).set_ (.inl (by simp)) _, cur.setIfInBounds i (.int .i64 x), (HBl.out.drewN _).set_ i _, by rw [Array.size_setIfInBounds]; exact HS.out, ?_, ?_⟩, by simp [intOf]; omega⟩
          · intro q hq
            rw [hil] at hq
            rw [Array.getElem?_setIfInBounds, HKK.out]
            by_cases hqi : i = q
            · subst hqi
              rw [if_pos rfl, if_pos (by rw [HS.out]; omega)]
              have := getD_append_at (kept (delP b t) xs j) x
              rw [HI.out] at this
              rw [this]
            · rw [if_neg hqi, getD_append_l _ _ _ (by rw [HI.out]; omega)]
              exact H1.out q (by rw [HI.out]; omega)
          · intro q hq hq2
            rw [Array.getElem?_setIfInBounds, if_neg (by omega)]
            exact H2.out q (by omega) hq2
        · rw [hp] at hks
          have HK := Lib.hid hks
          clear hks
          go_wp2_with fail
          refine (tellDel_any ga gs g b t _ _ he hb ht ht2).mono ?_
          rintro e w2 ⟨rfl, m2, rfl⟩
          have hkk : kept (delP b t) xs (j + 1) = kept (delP b t) xs j := by rw [HK.out]; simp
          have HKK := Lib.hid hkk
          clear hkk
          go_wp2_with fail
          refine ⟨⟨j + 1, by omega, by omega, by rw [HKK.out, HI.out], by go_num, by rw [HKK.out, HI.out]; omega, hkp.drewN _, cur, HBl.out.drewN _, HS.out, ?_, ?_⟩, by simp [intOf]; omega⟩
          · rw [HKK.out]; exact H1.out
          · exact fun q hq hq2 => H2.out q (by omega) hq2
      · obtain rfl : j = n := by omega
        have hcl : ∀ ty, (Builtin.clear_ #[22] ty #[.slice (some ⟨gb, i, none⟩) (j - i) (cap - i)]).run Try.prog wr = .ok (.tuple #[]) (wr.setCells gb i (List.replicate (j - i) (.int .i64 0))) :=
          fun ty => Lib.run_clear_slice wr _ _ ty _ Try.underlying22 zeroInt rfl rfl gb i _ _ (by omega) (fun q hq => by rw [hblk.cell]; rw [Array.getElem?_eq_getElem (by omega)]; rfl) (fun q hq => hblk.frozen _)
        have hic : ¬ cap = i := by omega
        clear hi hblk hsz hc1 hc2
        go_wp2_with fail
        go_ret
        have e1 : (xs.filter fun x => !delP b t x) = kept (delP b t) xs j := by rw [← kept_full, HL.out]
        rw [e1]
        obtain ⟨cur', k1, k2, k3⟩ := Blk.setCells (List.replicate (j - i) (.int .i64 0)) i wr cur HBl.out
        have e2 := HI.out
        refine ⟨by rw [e2]; rfl, ?_, Kp.setCells (by simp) _ _ _ _ hkp⟩
        rw [e2]
        exact ⟨cur', k1, by rw [k2]; exact HS.out, by omega, e2, fun q hq => by rw [k3 q hq]; exact H1.out q (by omega)⟩
end Go.Proofs.Ytmcegaabopcmfaa
