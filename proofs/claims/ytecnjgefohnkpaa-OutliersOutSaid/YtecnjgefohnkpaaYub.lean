/- Plain: the law OutliersOut is true for every list of numbers. -/
import Derived.Test.YtecnjgefohnkpaaIsYu
import Derived.Test.YtecnjgefohnkpaaSrYu
namespace Go.Proofs.Ytecnjgefohnkpaa
set_option linter.unusedVariables false
set_option maxRecDepth 20000
/-- a time that is doubled -/
def lgD (base most : Int) : Nat → Int
  | 0 => base
  | k + 1 => min (2 * lgD base most k) most
theorem lgD_most {base most : Int} {k : Nat} (h0 : 0 ≤ most) (h : lgD base most k = most) (j : Nat) : lgD base most (k + j) = most := by
  induction j with
  | zero => exact h
  | succ j ih => show min (2 * lgD base most (k + j)) most = most; rw [ih]; omega
theorem lgD_rng {base most : Int} (h0 : 1 ≤ base) (h1 : base ≤ most) (k : Nat) : 1 ≤ lgD base most k ∧ lgD base most k ≤ most := by
  induction k with
  | zero => exact ⟨h0, h1⟩
  | succ k ih => show 1 ≤ min (2 * lgD base most k) most ∧ min (2 * lgD base most k) most ≤ most; omega
theorem dblP {base most : Int} (h0 : 1 ≤ base) (h1 : base ≤ most) (h2 : most ≤ 3600000) : ∀ (m j k : Nat) (n : Int), 1 ≤ n → n ≤ 7200000 → min n most = lgD base most k → rng (fun (k : Nat) (s : Int) => upstream_doubled_L2 most k s) (fun (s : Int) => upstream_doubled_E2 most s) m j n = some (lgD base most (k + m))
  | 0, j, k, n, a, b, h => by
    show upstream_doubled_E2 most n = _
    unfold upstream_doubled_E2 upstream_doubled_J1
    rw [h]; rfl
  | m + 1, j, k, n, a, b, h => by
    show (upstream_doubled_L2 most j n).bind _ = _
    by_cases hc : most ≤ n
    · have e : upstream_doubled_L2 most j n = some (.inr (min n most)) := by
        unfold upstream_doubled_L2 upstream_doubled_J1
        rw [if_pos (by simpa using hc)]; rfl
      rw [e]
      simp only [Option.bind_some, after]
      have hm : lgD base most k = most := by rw [← h]; omega
      rw [h, hm, lgD_most (by omega) hm]
    · have e : upstream_doubled_L2 most j n = some (.inl (n * 2)) := by
        unfold upstream_doubled_L2
        rw [if_neg (by simpa using hc), wr_id (by omega)]
      rw [e]
      simp only [Option.bind_some, after]
      rw [dblP h0 h1 h2 m (j + 1) (k + 1) (n * 2) (by omega) (by omega) (by show min (n * 2) most = min (2 * lgD base most k) most; rw [← h]; omega), show k + 1 + m = k + (m + 1) by omega]
theorem doubled_eq {base most t : Int} (h0 : 1 ≤ base) (h1 : base ≤ most) (h2 : most ≤ 3600000) (ht : 0 ≤ t ∧ t ≤ 1000000) : m_upstream_doubled base t most = some (lgD base most t.toNat) := by
  unfold m_upstream_doubled
  rw [if_pos (by omega), dblP h0 h1 h2 t.toNat 0 0 base h0 (by omega) (by show min base most = base; omega), Nat.zero_add]
theorem dblR {base most : Int} (h0 : 1 ≤ base) (h1 : base ≤ most) (h2 : most ≤ 3600000) (s1 : S_gateref2_bench) (hm : s1.o_.Most = most) (F : Int → Option S_gateref2_bench) : ∀ (m j k : Nat), rng (fun (k : Nat) (s : Int) => gateref2_bench_take_L1 s1 k s) F m j (lgD base most k) = F (lgD base most (k + m))
  | 0, j, k => rfl
  | m + 1, j, k => by
    have hr := lgD_rng h0 h1 k
    have e : gateref2_bench_take_L1 s1 j (lgD base most k) = some (.inl (lgD base most (k + 1))) := by
      unfold gateref2_bench_take_L1
      rw [wr_id (by omega), hm]; rfl
    show (gateref2_bench_take_L1 s1 j (lgD base most k)).bind _ = _
    rw [e]
    simp only [Option.bind_some, after]
    rw [dblR h0 h1 h2 s1 hm F m (j + 1) (k + 1), show k + 1 + m = k + (m + 1) by omega]
/-- who is out -/
def outC (u : Bs → Int) (t : Int) (xs : List S_api_Instance) : List Bs := (xs.filter fun x => decide (t < u x.Key)).map fun x => x.Key
theorem outC_len (u : Bs → Int) (t : Int) (xs : List S_api_Instance) : (outC u t xs).length ≤ xs.length := by
  unfold outC; rw [List.length_map]; exact List.length_filter_le _ _
theorem outC_cons (u : Bs → Int) (t : Int) (x : S_api_Instance) (xs : List S_api_Instance) : outC u t (x :: xs) = if t < u x.Key then x.Key :: outC u t xs else outC u t xs := by
  unfold outC
  by_cases h : t < u x.Key
  · rw [List.filter_cons, if_pos (by simpa using h), if_pos h]; rfl
  · rw [List.filter_cons, if_neg (by simpa using h), if_neg h]
theorem bench_out (s1 : S_gateref2_bench) (t : Int) (hl : s1.l_.length ≤ 1000) (hk : ∀ x, x ∈ s1.l_ → x.Key.length ≤ 1000) : m_gateref2_bench_out s1 t = some (outC s1.until_.2 t s1.l_) := by
  have key : ∀ (l : List S_api_Instance) (k : Nat) (q : List Bs), (∀ x, x ∈ l → x.Key.length ≤ 1000) → q.length + l.length ≤ 1000000 → forL (fun (k : Nat) (x : S_api_Instance) (s : (List Bs)) => gateref2_bench_out_L1 s1 t k x s) (fun (s : (List Bs)) => gateref2_bench_out_E1 s) k l q = some (q ++ outC s1.until_.2 t l) := by
    intro l
    induction l with
    | nil => intro k q _ _; show some q = _; simp [outC]
    | cons x l ih =>
      intro k q h1 h2
      simp only [List.length_cons] at h2
      have hx := h1 x (by simp)
      have e : gateref2_bench_out_L1 s1 t k x q = some (.inl (q ++ if t < s1.until_.2 x.Key then [x.Key] else [])) := by
        unfold gateref2_bench_out_L1 gateref2_bench_out_J2
        rw [if_pos (by omega)]
        by_cases h : t < s1.until_.2 x.Key
        · rw [if_pos (by simpa using h), if_pos (by omega), if_pos h]
        · rw [if_neg (by simpa using h), if_neg h, List.append_nil]
      show (gateref2_bench_out_L1 s1 t k x q).bind _ = _
      rw [e]
      simp only [Option.bind_some, after]
      rw [ih (k + 1) _ (fun y hy => h1 y (List.mem_cons_of_mem _ hy)) (by by_cases h : t < s1.until_.2 x.Key <;> simp [h] <;> omega), outC_cons]
      by_cases h : t < s1.until_.2 x.Key
      · simp [h]
      · simp [h]
  unfold m_gateref2_bench_out
  rw [if_pos (by omega), key s1.l_ 0 [] hk (by simp only [List.length_nil]; omega), List.nil_append]
theorem manyP {ρ : Type} (F : Int → Option ρ) (B : Nat → Int → Option (Int ⊕ ρ)) (xs : List S_api_Instance) (u : Bs → Int) (t : Int) (hB : ∀ (k : Nat) x v, xs[k]? = some x → B k v = some (.inl (if t < u x.Key then wr (v + 1) else v))) :
    ∀ (l : List S_api_Instance) (k : Nat) (v : Int), xs.drop k = l → 0 ≤ v → v + (l.length : Int) ≤ 1000000 → rng B F l.length k v = F (v + ((outC u t l).length : Int))
  | [], k, v, _, _, _ => by show F v = _; simp [outC]
  | x :: l, k, v, hd, h0, h1 => by
    obtain ⟨d1, d2, d3⟩ := drop_at hd
    simp only [List.length_cons] at h1
    show (B k v).bind _ = _
    rw [hB k x v d2]
    simp only [Option.bind_some, after]
    rw [outC_cons]
    by_cases h : t < u x.Key
    · rw [if_pos h, if_pos h, wr_id (by omega), manyP F B xs u t hB l (k + 1) (v + 1) d3 (by omega) (by omega)]
      simp only [List.length_cons]
      congr 1; omega
    · rw [if_neg h, if_neg h, manyP F B xs u t hB l (k + 1) v d3 h0 (by omega)]
/-- the program's standings and the reference's maps -/
structure SR (xs : List S_api_Instance) (k : Int) (L : List S_upstream_standing) (r t u : Bs → Int) : Prop where
  len : L.length = xs.length
  at_ : ∀ (i : Nat) x, xs[i]? = some x → L[i]? = some (S_upstream_standing.mk (r x.Key) (u x.Key) (t x.Key))
  rr : ∀ q, 0 ≤ r q ∧ r q ≤ k
  tt : ∀ q, 0 ≤ t q ∧ t q ≤ k
  uu : ∀ q, 0 ≤ u q ∧ u q ≤ 1000000000000
theorem SR.mono {xs : List S_api_Instance} {k m : Int} {L : List S_upstream_standing} {r t u : Bs → Int} (h : SR xs k L r t u) (hm : k ≤ m) : SR xs m L r t u :=
  ⟨h.len, h.at_, fun q => by have := h.rr q; omega, fun q => by have := h.tt q; omega, h.uu⟩
theorem upm_at {m : Bs → Int} {k : Bs} {v : Int} : upm m k v k = v := by unfold upm; rw [if_pos rfl]
theorem upm_ne {m : Bs → Int} {k q : Bs} {v : Int} (h : q ≠ k) : upm m k v q = m q := by unfold upm; rw [if_neg h]
theorem upm_upm (m : Bs → Int) (k : Bs) (v w : Int) : upm (upm m k v) k w = upm m k w := by
  funext q
  by_cases h : q = k
  · subst h; rw [upm_at, upm_at]
  · rw [upm_ne h, upm_ne h, upm_ne h]
theorem upm_id (m : Bs → Int) (k : Bs) : upm m k (m k) = m := by
  funext q
  by_cases h : q = k
  · subst h; rw [upm_at]
  · rw [upm_ne h]
theorem SR.set {xs : List S_api_Instance} {k : Int} {L : List S_upstream_standing} {r t u : Bs → Int} (h : SR xs k L r t u) (hs : Srt xs) {i : Nat} {x : S_api_Instance} (hx : xs[i]? = some x) (a b c : Int) (ha : 0 ≤ a ∧ a ≤ k + 1) (hb : 0 ≤ b ∧ b ≤ 1000000000000) (hc : 0 ≤ c ∧ c ≤ k + 1) :
    SR xs (k + 1) (L.set i (S_upstream_standing.mk a b c)) (upm r x.Key a) (upm t x.Key c) (upm u x.Key b) := by
  have hi : i < L.length := by rw [h.len]; exact lt_some hx
  refine ⟨by rw [List.length_set]; exact h.len, fun j y hy => ?_, fun q => ?_, fun q => ?_, fun q => ?_⟩
  · by_cases hj : j = i
    · subst hj
      rw [hx] at hy; cases hy
      rw [List.getElem?_set_self hi, upm_at, upm_at, upm_at]
    · have hne : y.Key ≠ x.Key := fun he => by
        rcases Nat.lt_or_gt_of_ne hj with hl | hl
        · have := srt_at hs hy hx hl; rw [(cmp_zero _ _).2 he] at this; omega
        · have := srt_at hs hx hy hl; rw [(cmp_zero _ _).2 he.symm] at this; omega
      rw [List.getElem?_set_ne (Ne.symm hj), upm_ne hne, upm_ne hne, upm_ne hne]
      exact h.at_ j y hy
  · by_cases hq : q = x.Key
    · subst hq; rw [upm_at]; exact ha
    · rw [upm_ne hq]; have := h.rr q; omega
  · by_cases hq : q = x.Key
    · subst hq; rw [upm_at]; exact hc
    · rw [upm_ne hq]; have := h.tt q; omega
  · by_cases hq : q = x.Key
    · subst hq; rw [upm_at]; exact hb
    · rw [upm_ne hq]; exact h.uu q
structure OlB (o : S_api_Outliers) : Prop where
  f : 1 ≤ o.Fails ∧ o.Fails ≤ 100
  b : 1 ≤ o.Base ∧ o.Base ≤ o.Most
  m : o.Most ≤ 3600000
  s : 0 ≤ o.Share ∧ o.Share ≤ 1000
theorem isOut_at (o : S_api_Outliers) (L : List S_upstream_standing) (i : Int) (t : Int) (st : S_upstream_standing) (h0 : 0 ≤ i) (h : L[i.toNat]? = some st) : m_upstream_standings_isOut (S_upstream_standings.mk o L) i t = some (decide (t < st.until_)) := by
  unfold m_upstream_standings_isOut at?
  rw [if_pos h0]
  simp only [h, Option.bind_some]
theorem told_two {xs : List S_api_Instance} {k : Int} {L : List S_upstream_standing} {r t u : Bs → Int} (h : SR xs k L r t u) (hk : 0 ≤ k ∧ k ≤ 2000) (hs : Srt xs) (hB : InsB xs) {o : S_api_Outliers} (ho : OlB o) {i : Int} {x : S_api_Instance} (h0 : 0 ≤ i) (hx : xs[i.toNat]? = some x)
    (y : S_api_Result) (hy : y.Instance = x.Key) (hA : 0 ≤ y.At ∧ y.At ≤ 345686399999) (n1 n2 n3 : Nat) (hn : n1 ≤ 100000 ∧ n2 ≤ 100000 ∧ n3 ≤ 100000) :
    ∃ L' r' t' u' m1 m2 m3, m_upstream_standings_told (S_upstream_standings.mk o L) i y.At y.Status = some (S_upstream_standings.mk o L') ∧
      m_gateref2_bench_take (S_gateref2_bench.mk xs o (n1, r) (n2, t) (n3, u)) y = some (S_gateref2_bench.mk xs o (m1, r') (m2, t') (m3, u')) ∧ SR xs (k + 1) L' r' t' u' ∧ m1 ≤ n1 + 2 ∧ m2 ≤ n2 + 1 ∧ m3 ≤ n3 + 1 := by
  have hst := h.at_ _ _ hx
  have hr := h.rr x.Key
  have ht := h.tt x.Key
  have hu := h.uu x.Key
  have hKl := hB.key x (List.mem_of_getElem? hx)
  have hlen := hB.len
  unfold m_upstream_standings_told m_gateref2_bench_take
  dsimp only
  rw [hy, if_pos (by omega), isOut_at o L i y.At _ h0 hst]
  simp only [Option.bind_some]
  by_cases h1 : y.At < u x.Key
  · rw [if_pos (by simpa using h1), if_pos (by simpa using h1)]
    exact ⟨L, r, t, u, n1, n2, n3, rfl, rfl, h.mono (by omega), by omega, by omega, by omega⟩
  rw [if_neg (by simpa using h1), if_neg (by simpa using h1)]
  have hat : at? L i = some (S_upstream_standing.mk (r x.Key) (u x.Key) (t x.Key)) := by unfold at?; rw [if_pos h0, hst]
  rw [hat]
  have hf : m_gateref2_fails y.Status = m_upstream_fails y.Status := rfl
  rw [hf]
  have hfs : m_upstream_fails y.Status = some ((decide (y.Status = 0)) || (decide (500 ≤ y.Status))) := rfl
  rw [hfs]
  simp only [Option.bind_some]
  cases hb : ((decide (y.Status = 0)) || (decide (500 ≤ y.Status)))
  · simp only [Bool.not_false, if_true]
    rw [if_pos ⟨by omega, by omega, by omega, by omega⟩]
    have := h.set hs hx 0 (u x.Key) (t x.Key) (by omega) hu (by omega)
    rw [upm_id, upm_id] at this
    exact ⟨_, _, _, _, _, _, _, rfl, rfl, this, by omega, by omega, by omega⟩
  simp only [Bool.not_true, Bool.false_eq_true, if_false]
  have hw : wr (r x.Key + 1) = r x.Key + 1 := wr_id (by omega)
  have gK : x.Key.length ≤ 1000000000 := by omega
  have gA : x.Key.length ≤ 1000000000 ∧ n1 < 1000000 ∧ -9223372036854775808 ≤ r x.Key + 1 ∧ r x.Key + 1 ≤ 9223372036854775807 := ⟨by omega, by omega, by omega, by omega⟩
  rw [if_pos gK, hw, if_pos gA, if_pos gK, upm_at]
  by_cases h2 : r x.Key + 1 < o.Fails
  · rw [if_pos (by simpa using h2), if_pos (by simpa using h2)]
    have := h.set hs hx (r x.Key + 1) (u x.Key) (t x.Key) (by omega) hu (by omega)
    rw [upm_id, upm_id] at this
    exact ⟨_, _, _, _, _, _, _, rfl, rfl, this, by omega, by omega, by omega⟩
  have d2 : decide (r x.Key + 1 < o.Fails) = false := by simpa using h2
  have gB : x.Key.length ≤ 1000000000 ∧ n1 + 1 < 1000000 ∧ -9223372036854775808 ≤ (0 : Int) ∧ (0 : Int) ≤ 9223372036854775807 := ⟨by omega, by omega, by omega, by omega⟩
  simp only [d2, Bool.false_eq_true, if_false]
  rw [if_pos gB]
  have hS := h.set hs hx 0 (u x.Key) (t x.Key) (by omega) hu (by omega)
  rw [upm_id, upm_id] at hS
  rw [List.set_set, bench_out _ _ hlen hB.key, upm_upm]
  simp only [Option.bind_some]
  have hL2 : (L.set i.toNat (S_upstream_standing.mk 0 (u x.Key) (t x.Key))).length = xs.length := hS.len
  have gL : (L.set i.toNat (S_upstream_standing.mk 0 (u x.Key) (t x.Key))).length ≤ 1000000000 := by omega
  rw [if_pos gL]
  have hmany := manyP (fun (s : Int) => upstream_standings_told_E1 (S_upstream_standings.mk o L) i y.At (S_upstream_standing.mk (r x.Key) (u x.Key) (t x.Key)) s)
    (fun (k : Nat) (s : Int) => upstream_standings_told_L1 (S_upstream_standings.mk o L) i y.At (S_upstream_standing.mk (r x.Key) (u x.Key) (t x.Key)) k s) xs u y.At (fun k z v hz => by
      have hz2 := hS.at_ k z hz
      unfold upstream_standings_told_L1 upstream_standings_told_J2
      rw [List.set_set, isOut_at o _ (k : Int) y.At _ (by omega) (by simpa using hz2)]
      simp only [Option.bind_some]
      by_cases hc : y.At < u z.Key
      · rw [if_pos (by simpa using hc), if_pos hc]
      · rw [if_neg (by simpa using hc), if_neg hc]) xs 0 1 rfl (by omega) (by omega)
  have hc := outC_len u y.At xs
  rw [hL2, hmany]
  unfold upstream_standings_told_E1
  dsimp only
  have hsh : 0 ≤ o.Share * (xs.length : Int) ∧ o.Share * (xs.length : Int) ≤ 1000 * 1000 := by
    have := ho.s
    have h3 : (xs.length : Int) ≤ 1000 := by omega
    exact ⟨Int.mul_nonneg this.1 (by omega), Int.mul_le_mul this.2 h3 (by omega) (by omega)⟩
  rw [List.set_set, hL2, wr_id (n := o.Share * (xs.length : Int)) (by omega), wr_id (n := ((outC u y.At xs).length : Int) + 1) (by omega), wr_id (n := (((outC u y.At xs).length : Int) + 1) * 1000) (by omega), wr_id (n := (1 + ((outC u y.At xs).length : Int)) * 1000) (by omega)]
  by_cases h3 : o.Share * (xs.length : Int) < (((outC u y.At xs).length : Int) + 1) * 1000
  · have d3 : decide ((1 + ((outC u y.At xs).length : Int)) * 1000 ≤ o.Share * (xs.length : Int)) = false := by simp; omega
    have d4 : decide (o.Share * (xs.length : Int) < (((outC u y.At xs).length : Int) + 1) * 1000) = true := by simpa using h3
    simp only [d3, d4, Bool.false_eq_true, if_false, if_true]
    exact ⟨_, _, _, _, _, _, _, rfl, rfl, hS, by omega, by omega, by omega⟩
  · have hlg := lgD_rng ho.b.1 ho.b.2 (t x.Key).toNat
    have hmo := ho.m
    have d3 : decide ((1 + ((outC u y.At xs).length : Int)) * 1000 ≤ o.Share * (xs.length : Int)) = true := by simp; omega
    have d4 : decide (o.Share * (xs.length : Int) < (((outC u y.At xs).length : Int) + 1) * 1000) = false := by simpa using h3
    have gT : t x.Key ≤ 1000000000 := by omega
    simp only [d3, d4, Bool.false_eq_true, if_false, if_true]
    rw [doubled_eq ho.b.1 ho.b.2 ho.m (by omega), if_pos gK, if_pos gT]
    simp only [Option.bind_some]
    have hR := dblR ho.b.1 ho.b.2 ho.m (S_gateref2_bench.mk xs o (n1, r) (n2, t) (n3, u)) rfl (fun (s : Int) => gateref2_bench_take_E1 (S_gateref2_bench.mk xs o (n1, r) (n2, t) (n3, u)) y s) (t x.Key).toNat 0 0
    have hR : rng (fun (k : Nat) (s : Int) => gateref2_bench_take_L1 (S_gateref2_bench.mk xs o (n1, r) (n2, t) (n3, u)) k s) (fun (s : Int) => gateref2_bench_take_E1 (S_gateref2_bench.mk xs o (n1, r) (n2, t) (n3, u)) y s) (t x.Key).toNat 0 o.Base = _ := hR
    rw [hR, Nat.zero_add]
    unfold gateref2_bench_take_E1
    dsimp only
    rw [hy, wr_id (n := t x.Key + 1) (by omega), wr_id (n := y.At + lgD o.Base o.Most (t x.Key).toNat) (by omega), if_pos gK, if_pos (show x.Key.length ≤ 1000000000 ∧ n2 < 1000000 ∧ -9223372036854775808 ≤ t x.Key + 1 ∧ t x.Key + 1 ≤ 9223372036854775807 from ⟨by omega, by omega, by omega, by omega⟩), if_pos (show x.Key.length ≤ 1000000000 ∧ n3 < 1000000 ∧ -9223372036854775808 ≤ y.At + lgD o.Base o.Most (t x.Key).toNat ∧ y.At + lgD o.Base o.Most (t x.Key).toNat ≤ 9223372036854775807 from ⟨by omega, by omega, by omega, by omega⟩), upm_upm, List.set_set, List.set_set]
    exact ⟨_, _, _, _, _, _, _, rfl, rfl, h.set hs hx 0 (y.At + lgD o.Base o.Most (t x.Key).toNat) (t x.Key + 1) (by omega) (by omega) (by omega), by omega, by omega, by omega⟩
theorem endP (xs : List S_api_Instance) (k0 : Int) (L : List S_upstream_standing) (r t u : Bs → Int) (h : SR xs k0 L r t u) (a b c d : Int) (v : Int) : ∀ (l : List S_api_Instance) (k : Nat) (q : List Bs), xs.drop k = l → q.length + l.length ≤ 1000000 →
    forL (fun (k : Nat) (x : S_api_Instance) (s : (List Bs)) => upstream_Out_L2 v L a b c d k x s) (fun (s : (List Bs)) => upstream_Out_E2 s) k l q = some (q ++ outC u v l, 0)
  | [], k, q, _, _ => by show some (q, 0) = _; simp [outC]
  | x :: l, k, q, hd, hq => by
    obtain ⟨d1, d2, d3⟩ := drop_at hd
    simp only [List.length_cons] at hq
    have hz := h.at_ k x d2
    have e : upstream_Out_L2 v L a b c d k x q = some (.inl (q ++ if v < u x.Key then [x.Key] else [])) := by
      unfold upstream_Out_L2 upstream_Out_J3
      rw [isOut_at _ _ (k : Int) v _ (by omega) (by simpa using hz)]
      simp only [Option.bind_some]
      by_cases hc : v < u x.Key
      · rw [if_pos (by simpa using hc), if_pos (by omega), if_pos hc]
      · rw [if_neg (by simpa using hc), if_neg hc, List.append_nil]
    show (upstream_Out_L2 v L a b c d k x q).bind _ = _
    rw [e]
    simp only [Option.bind_some, after]
    rw [endP xs k0 L r t u h a b c d v l (k + 1) _ d3 (by by_cases hc : v < u x.Key <;> simp [hc] <;> omega), outC_cons]
    by_cases hc : v < u x.Key
    · simp [hc]
    · simp [hc]
/-- a result that is right -/
def resG (xs : List S_api_Instance) (y : S_api_Result) : Prop := (0 ≤ y.At ∧ y.At ≤ 345686399999) ∧ hasK xs y.Instance = true
theorem out_two (xs : List S_api_Instance) (hB : InsB xs) (hs : Srt xs) (o : S_api_Outliers) (ho : OlB o) (rs : List S_api_Result) (hl : rs.length ≤ 2000) (hr : ∀ y, y ∈ rs → resG xs y) (v : Int) :
    ∃ d : List Bs, forL (fun (k : Nat) (x : S_api_Result) (s : (List S_upstream_standing) × Int × Int × Int × Int) => upstream_Out_L1 xs v k x s.1 s.2.1 s.2.2.1 s.2.2.2.1 s.2.2.2.2) (fun (s : (List S_upstream_standing) × Int × Int × Int × Int) => upstream_Out_E1 xs v s.1 s.2.1 s.2.2.1 s.2.2.2.1 s.2.2.2.2) 0 rs ((List.replicate xs.length (S_upstream_standing.mk 0 0 0)), o.Fails, o.Base, o.Most, o.Share) = some (d, 0) ∧
      m_gateref2_OutOf xs o rs v = some d ∧ d.length ≤ 1000 := by
  have hlen := hB.len
  unfold m_gateref2_OutOf m_gateref2_newBench
  simp only [Option.bind_some]
  rw [if_pos (by omega)]
  have key := forL_rel (fun (j : Nat) (σ : (List S_upstream_standing) × Int × Int × Int × Int) (τ : (List S_api_Instance) × Int × Int × Int × Int × (Bs → Int) × Nat × (Bs → Int) × Nat × (Bs → Int) × Nat) => ∃ L r t u m1 m2 m3, σ = (L, o.Fails, o.Base, o.Most, o.Share) ∧ τ = (xs, o.Fails, o.Base, o.Most, o.Share, r, m1, t, m2, u, m3) ∧ SR xs (j : Int) L r t u ∧ m1 ≤ 2 * j ∧ m2 ≤ j ∧ m3 ≤ j)
    (fun (p : List Bs × Int) (q : List Bs) => p = (q, 0) ∧ q.length ≤ 1000)
    (body := fun (k : Nat) (x : S_api_Result) (s : (List S_upstream_standing) × Int × Int × Int × Int) => upstream_Out_L1 xs v k x s.1 s.2.1 s.2.2.1 s.2.2.2.1 s.2.2.2.2) (fin := fun (s : (List S_upstream_standing) × Int × Int × Int × Int) => upstream_Out_E1 xs v s.1 s.2.1 s.2.2.1 s.2.2.2.1 s.2.2.2.2)
    (body' := fun (k : Nat) (x : S_api_Result) (s : (List S_api_Instance) × Int × Int × Int × Int × (Bs → Int) × Nat × (Bs → Int) × Nat × (Bs → Int) × Nat) => gateref2_OutOf_L1 v k x s.1 s.2.1 s.2.2.1 s.2.2.2.1 s.2.2.2.2.1 s.2.2.2.2.2.1 s.2.2.2.2.2.2.1 s.2.2.2.2.2.2.2.1 s.2.2.2.2.2.2.2.2.1 s.2.2.2.2.2.2.2.2.2.1 s.2.2.2.2.2.2.2.2.2.2)
    (fin' := fun (s : (List S_api_Instance) × Int × Int × Int × Int × (Bs → Int) × Nat × (Bs → Int) × Nat × (Bs → Int) × Nat) => gateref2_OutOf_E1 v s.1 s.2.1 s.2.2.1 s.2.2.2.1 s.2.2.2.2.1 s.2.2.2.2.2.1 s.2.2.2.2.2.2.1 s.2.2.2.2.2.2.2.1 s.2.2.2.2.2.2.2.2.1 s.2.2.2.2.2.2.2.2.2.1 s.2.2.2.2.2.2.2.2.2.2)
    rs 0 ((List.replicate xs.length (S_upstream_standing.mk 0 0 0)), o.Fails, o.Base, o.Most, o.Share) (xs, o.Fails, o.Base, o.Most, o.Share, (fun _ => 0), 0, (fun _ => 0), 0, (fun _ => 0), 0) ?_ ?_ ?_
  · obtain ⟨p, q, e1, e2, rfl, e4⟩ := key
    exact ⟨q, e1, e2, e4⟩
  · refine ⟨_, fun _ => 0, fun _ => 0, fun _ => 0, 0, 0, 0, rfl, rfl, ⟨by simp, fun i x hx => ?_, fun q => by simp, fun q => by simp, fun q => by simp⟩, by omega, by omega, by omega⟩
    rw [List.getElem?_replicate, if_pos (lt_some hx)]
  · rintro j y _ _ _ hy ⟨L, r, t, u, m1, m2, m3, rfl, rfl, h1, h2, h3, h4⟩
    simp only [Nat.sub_zero] at hy
    have hj := lt_some hy
    obtain ⟨g1, g2⟩ := hr y (List.mem_of_getElem? hy)
    left
    dsimp only
    unfold upstream_Out_L1 gateref2_OutOf_L1 upstream_Out_J4 gateref2_OutOf_J2
    by_cases hv : y.At ≤ v
    · obtain ⟨p, p1, p2, p3⟩ := place_ok xs y.Instance hlen hs
      obtain ⟨q1, x, q2, q3⟩ := p3 (p2.trans g2)
      obtain ⟨L', r', t', u', n1, n2, n3, f1, f2, f3, f4, f5, f6⟩ := told_two h1 (by omega) hs hB ho q1 q2 y q3.symm g1 m1 m2 m3 (by omega)
      have f1' : m_upstream_standings_told (S_upstream_standings.mk (S_api_Outliers.mk o.Fails o.Base o.Most o.Share) L) p.1 y.At y.Status = _ := f1
      have f2' : m_gateref2_bench_take (S_gateref2_bench.mk xs (S_api_Outliers.mk o.Fails o.Base o.Most o.Share) (m1, r) (m2, t) (m3, u)) y = _ := f2
      rw [if_pos (by simpa using hv), if_pos (by simpa using hv), p1]
      simp only [Option.bind_some]
      rw [f1', f2']
      exact ⟨_, _, rfl, rfl, L', r', t', u', n1, n2, n3, rfl, rfl, by exact_mod_cast f3, by omega, by omega, by omega⟩
    · rw [if_neg (by simpa using hv), if_neg (by simpa using hv)]
      exact ⟨_, _, rfl, rfl, L, r, t, u, m1, m2, m3, rfl, rfl, h1.mono (by omega), by omega, by omega, by omega⟩
  · rintro _ _ ⟨L, r, t, u, m1, m2, m3, rfl, rfl, h1, h2, h3, h4⟩
    dsimp only
    unfold upstream_Out_E1 gateref2_OutOf_E1
    rw [if_pos (by omega), endP xs _ L r t u h1 _ _ _ _ v xs 0 [] rfl (by simp only [List.length_nil]; omega), bench_out _ _ hlen hB.key]
    refine ⟨_, _, rfl, rfl, rfl, ?_⟩
    have := outC_len u v xs
    simp only; omega
/-- the fault of the outliers' settings -/
def olF (o : S_api_Outliers) : Int := if (outP o.Fails 1 100 || (outP o.Base 1 o.Most || (decide (3600000 < o.Most) || outP o.Share 0 1000))) = true then 1 else 0
theorem olf_eq (o : S_api_Outliers) : m_upstream_outliersFault o = some (olF o) ∧ m_gateref2_OutliersFault o = some (olF o) := by
  constructor
  · unfold m_upstream_outliersFault upstream_outliersFault_J1 olF
    rw [out_eq, out_eq, out_eq]
    simp only [Option.bind_some]
    cases outP o.Fails 1 100 <;> cases outP o.Base 1 o.Most <;> cases decide (3600000 < o.Most) <;> cases outP o.Share 0 1000 <;> rfl
  · unfold m_gateref2_OutliersFault gateref2_OutliersFault_J1 olF
    rw [in_eq, in_eq, in_eq]
    simp only [Option.bind_some]
    cases outP o.Fails 1 100 <;> cases outP o.Base 1 o.Most <;> cases decide (3600000 < o.Most) <;> cases outP o.Share 0 1000 <;> rfl
theorem olf_ok {o : S_api_Outliers} (h : olF o = 0) : OlB o := by
  unfold olF at h
  split at h
  · cases h
  · rename_i hc
    simp only [outP, Bool.or_eq_true, decide_eq_true_eq, not_or] at hc
    exact ⟨by omega, by omega, by omega, by omega⟩
/-- the fault of a result -/
def reE (xs : List S_api_Instance) (rs : List S_api_Result) (j : Nat) (x : S_api_Result) : Int :=
  if !momP x.At then 1 else if !hasK xs x.Instance then 8 else if decide (x.Status ≠ 0) && outP x.Status 100 599 then 1 else if decide (0 < j) && decide (x.At < ((rs[j - 1]?).getD x).At) then 7 else 0
def rsF (xs : List S_api_Instance) (rs : List S_api_Result) : Int := if 2000 < rs.length then 2 else feI (reE xs rs) 0 rs
theorem at_prev (rs : List S_api_Result) (j : Nat) (x : S_api_Result) (hj : rs[j]? = some x) (h0 : 0 < j) : at? rs ((j : Int) - 1) = some ((rs[j - 1]?).getD x) := by
  have hl := lt_some hj
  unfold at?
  rw [if_pos (by omega)]
  have : ((j : Int) - 1).toNat = j - 1 := by omega
  rw [this, List.getElem?_eq_getElem (by omega)]; rfl
theorem refR (xs : List S_api_Instance) (hx : xs.length ≤ 1000) (rs : List S_api_Result) (hl : rs.length ≤ 1000) : m_gateref2_ResultsFault xs rs = some (rsF xs rs) := by
  unfold m_gateref2_ResultsFault rsF
  have a1 : decide (2000 < (rs.length : Int)) = false := by simp; omega
  have a2 : ¬ 2000 < rs.length := by omega
  have a3 : rs.length ≤ 1000000000 := by omega
  rw [a1, if_neg a2, if_pos a3]
  simp only [Bool.false_eq_true, if_false]
  refine forL_fe rfl rs 0 fun j x _ hj => ?_
  simp only [Nat.sub_zero] at hj
  obtain ⟨p, p1, p2⟩ := instAt_ok xs x.Instance hx
  unfold gateref2_ResultsFault_L1 gateref2_ResultsFault_J2 gateref2_ResultsFault_J3 reE
  rw [moment_eq, p1, in_eq]
  simp only [Option.bind_some, p2]
  cases momP x.At
  · rfl
  cases hasK xs x.Instance
  · rfl
  have hat := fun h0 => at_prev rs j x hj h0
  by_cases h0 : 0 < j
  · rw [hat h0]
    have e0 : decide (0 < (j : Int)) = true := by simp; omega
    have e1 : decide (0 < j) = true := by simpa using h0
    simp only [e0, e1, Option.bind_some]
    cases decide (x.Status ≠ 0) <;> cases outP x.Status 100 599 <;> cases decide (x.At < ((rs[j - 1]?).getD x).At) <;> rfl
  · have e0 : decide (0 < (j : Int)) = false := by simp; omega
    have e1 : decide (0 < j) = false := by simpa using h0
    simp only [e0, e1]
    cases decide (x.Status ≠ 0) <;> cases outP x.Status 100 599 <;> rfl
theorem chkR (xs : List S_api_Instance) (hB : InsB xs) (rs : List S_api_Result) (hl : rs.length ≤ 1000) : m_upstream_CheckResults xs rs = some (if ciF xs ≠ 0 then ciF xs else rsF xs rs) := by
  unfold m_upstream_CheckResults
  rw [chkI_eq xs hB]
  simp only [Option.bind_some]
  by_cases hc : ciF xs = 0
  · have hs := ciF_srt hc
    have b1 : decide (ciF xs ≠ 0) = false := by simpa using hc
    have b2 : ¬ ciF xs ≠ 0 := by simpa using hc
    have a1 : decide (2000 < (rs.length : Int)) = false := by simp; omega
    have a2 : ¬ 2000 < rs.length := by omega
    have a3 : rs.length ≤ 1000000000 := by omega
    unfold rsF
    rw [b1, if_neg b2, a1, if_neg a2, if_pos a3]
    simp only [Bool.false_eq_true, if_false]
    refine forL_fe rfl rs 0 fun j x _ hj => ?_
    simp only [Nat.sub_zero] at hj
    obtain ⟨p, p1, p2, _⟩ := place_ok xs x.Instance hB.len hs
    unfold upstream_CheckResults_L1 upstream_CheckResults_J2 upstream_CheckResults_J3 reE
    rw [isMoment_eq, p1, out_eq]
    simp only [Option.bind_some, p2]
    cases momP x.At
    · rfl
    cases hasK xs x.Instance
    · rfl
    have hat := fun h0 => at_prev rs j x hj h0
    by_cases h0 : 0 < j
    · rw [hat h0]
      have e0 : decide (0 < (j : Int)) = true := by simp; omega
      have e1 : decide (0 < j) = true := by simpa using h0
      simp only [e0, e1, Option.bind_some]
      cases decide (x.Status ≠ 0) <;> cases outP x.Status 100 599 <;> cases decide (x.At < ((rs[j - 1]?).getD x).At) <;> rfl
    · have e0 : decide (0 < (j : Int)) = false := by simp; omega
      have e1 : decide (0 < j) = false := by simpa using h0
      simp only [e0, e1]
      cases decide (x.Status ≠ 0) <;> cases outP x.Status 100 599 <;> rfl
  · rw [if_pos (by simpa using hc), if_pos hc]
theorem feI_zero {α : Type} (e : Nat → α → Int) : ∀ (l : List α) (k : Nat), feI e k l = 0 → ∀ x, x ∈ l → ∃ j, e j x = 0
  | [], _, _, x, hx => by cases hx
  | y :: l, k, h, x, hx => by
    simp only [feI] at h
    by_cases hy : e k y ≠ 0
    · rw [if_pos hy] at h; exact absurd h hy
    · rw [if_neg hy] at h
      rcases List.mem_cons.1 hx with rfl | hx
      · exact ⟨k, by simpa using hy⟩
      · exact feI_zero e l (k + 1) h x hx
theorem rsF_ok {xs : List S_api_Instance} {rs : List S_api_Result} (h : rsF xs rs = 0) : ∀ y, y ∈ rs → resG xs y := fun y hy => by
  unfold rsF at h
  split at h
  · cases h
  obtain ⟨j, hj⟩ := feI_zero _ rs 0 h y hy
  unfold reE at hj
  cases hm : momP y.At
  · rw [hm] at hj; cases hj
  · cases hk : hasK xs y.Instance
    · rw [hm, hk] at hj; cases hj
    · refine ⟨?_, hk⟩
      unfold momP at hm
      simpa using hm
theorem out_eq2 (xs : List S_api_Instance) (hB : InsB xs) (o : S_api_Outliers) (rs : List S_api_Result) (hl : rs.length ≤ 1000) (v : Int) :
    ∃ d : List Bs, m_upstream_Out xs o rs v = some (d, if ciF xs ≠ 0 then ciF xs else if olF o ≠ 0 then olF o else if rsF xs rs ≠ 0 then rsF xs rs else if momP v = true then 0 else 1) ∧ d.length ≤ 1000 ∧
      ((ciF xs = 0 ∧ olF o = 0 ∧ rsF xs rs = 0 ∧ momP v = true) → m_gateref2_OutOf xs o rs v = some d) ∧ (¬ (ciF xs = 0 ∧ olF o = 0 ∧ rsF xs rs = 0 ∧ momP v = true) → d = []) := by
  have hlen := hB.len
  unfold m_upstream_Out
  rw [chkI_eq xs hB, (olf_eq o).1, chkR xs hB rs hl, isMoment_eq]
  simp only [Option.bind_some]
  by_cases h1 : ciF xs = 0
  · by_cases h2 : olF o = 0
    · by_cases h3 : rsF xs rs = 0
      · cases h4 : momP v
        · simp [h1, h2, h3]
        · obtain ⟨d, d1, d2, d3⟩ := out_two xs hB (ciF_srt h1) o (olf_ok h2) rs (by omega) (rsF_ok h3) v
          rw [if_neg (by simpa using h1), if_neg (by simpa using h2), if_neg (by simp [h1, h3]), if_neg (by simp), if_pos (by omega), if_pos (by omega), d1]
          exact ⟨d, by simp [h1, h2, h3], d3, fun _ => d2, fun h => absurd ⟨h1, h2, h3, rfl⟩ h⟩
      · simp [h1, h2, h3]
    · simp [h1, h2]
  · simp [h1]
def erU : List Int → Int
  | [] => 0
  | x :: l => if x ≠ 0 then x else erU l
theorem erU_go : ∀ (l : List Int) (k : Nat), forL (fun (k : Nat) (x : Int) (s : Unit) => gatelaw2_errs_L1 k x) (fun (s : Unit) => gatelaw2_errs_E1) k l () = some (erU l)
  | [], k => rfl
  | x :: l, k => by
    have e : gatelaw2_errs_L1 k x = if x ≠ 0 then some (.inr x) else some (.inl ()) := by
      unfold gatelaw2_errs_L1
      by_cases h : x ≠ 0
      · rw [if_pos (by simpa using h), if_pos h]
      · rw [if_neg (by simpa using h), if_neg h]
    show (gatelaw2_errs_L1 k x).bind _ = some (if x ≠ 0 then x else erU l)
    rw [e]
    by_cases h : x ≠ 0
    · rw [if_pos h, if_pos h]; rfl
    · rw [if_neg h, if_neg h]
      exact erU_go l (k + 1)
theorem errsU (a b : Int) : m_gatelaw2_errs [a, b] = some (if a ≠ 0 then a else b) := by
  unfold m_gatelaw2_errs
  rw [if_pos (by simp), erU_go]
  by_cases ha : a = 0 <;> by_cases hb : b = 0 <;> simp [erU, ha, hb]
theorem momF (v : Int) : m_gatelaw2_momentFault v = some (if momP v = true then 0 else 1) := by
  unfold m_gatelaw2_momentFault m_gatelaw2_when
  rw [moment_eq]
  simp only [Option.bind_some]
  cases momP v <;> rfl
theorem outliers_ok {k : Int} {s : S_gatemake_Stream} (h : SB k s) (hk : k ≤ 100000) : Ok (m_gatemake_Stream_Outliers s) fun r => SB (k + 20) r.2 := by
  unfold m_gatemake_Stream_Outliers m_gatemake_Stream_RightOutliers gatemake_Stream_Outliers_J1
  refine ok_bind (Q := fun r => SB (k + 4) r.2) ?_ fun r2 h2 => ?_
  · refine ok_bind (pick_ok h (by omega) _ ⟨by simp, by simp⟩) fun a ha => ok_bind (pick_ok ha.2 (by omega) _ ⟨by simp, by simp⟩) fun b hb => ok_bind (pick_ok hb.2 (by omega) _ ⟨by simp, by simp⟩) fun c hc => ok_bind (pick_ok hc.2 (by omega) _ ⟨by simp, by simp⟩) fun d hd => ok_some (hd.2.mono (by omega))
  · refine ok_bind (flip_ok h2 (by omega) _ (by omega)) fun r4 h4 => ok_if (fun _ => ?_) (fun _ => ok_some (h4.mono (by omega)))
    refine ok_bind (odd_ok h4 (by omega) 1 100 (by omega)) fun a ha => ok_bind (odd_ok ha.2 (by omega) 1 20 (by omega)) fun b hb => ok_bind (odd_ok hb.2 (by omega) 1 3600000 (by omega)) fun c hc => ok_bind (odd_ok hc.2 (by omega) 0 1000 (by omega)) fun d hd => ok_some (hd.2.mono (by omega))
theorem instKey_ok {k : Int} {s : S_gatemake_Stream} (h : SB k s) (hk : k ≤ 1000000) : Ok (m_gatemake_Stream_InstanceKey s) fun r => SB (k + 2) r.2 := by
  unfold m_gatemake_Stream_InstanceKey
  refine ok_bind (flip_ok h (by omega) _ (by omega)) fun r hr => ok_if (fun _ => ok_bind (some_ok hr (by omega) _ ⟨by simp, by simp⟩) fun q hq => ok_some (hq.2.mono (by omega))) (fun _ => ok_bind (some_ok hr (by omega) _ ⟨by simp, by simp⟩) fun q hq => ok_some (hq.2.mono (by omega)))
theorem results_ok {k : Int} {s : S_gatemake_Stream} (h : SB k s) (hk : k ≤ 100000) (xs : List S_api_Instance) (hx : xs.length ≤ 4) : Ok (m_gatemake_Stream_Results s xs) fun r => r.1.length ≤ 18 := by
  unfold m_gatemake_Stream_Results
  refine ok_bind (range_ok h (by omega) 0 18 (by omega)) fun r3 h3 => ok_g (by omega) ?_
  obtain ⟨m, hm⟩ : ∃ m : Nat, r3.1 = (m : Int) := ⟨r3.1.toNat, by omega⟩
  have h3r := h3.1
  rw [hm] at h3r ⊢
  rw [Int.toNat_natCast]
  refine ok_rng (fun j (q : Int × List Int × Int × List S_api_Result) => SB (k + 1 + 20 * (j : Int)) (S_gatemake_Stream.mk q.2.1 q.2.2.1) ∧ q.2.2.2.length = j) m 0 _ ⟨h3.2.mono (by omega), rfl⟩ ?_ ?_
  · rintro j ⟨v5, c6, c7, l8⟩ _ hj ⟨g1, g2⟩
    simp only at g1 g2 ⊢
    unfold gatemake_Stream_Results_L1
    refine ok_bind (pick_ok g1 (by omega) _ ⟨by simp, by simp⟩) fun r13 h13 => ok_bind (instKey_ok h13.2 (by omega)) fun r15 h15 => ok_bind (pick_ok h15 (by omega) _ ⟨by simp, by simp⟩) fun r17 h17 => ?_
    have hJ4 : ∀ (c34 : Bs) (c42 : List Int) (c43 c44 c45 : Int), SB (k + 1 + 20 * ((j + 1 : Nat) : Int)) (S_gatemake_Stream.mk c42 c43) → Ok (gatemake_Stream_Results_J4 v5 l8 r13 c34 c42 c43 c44 c45) (rd (fun q : Int × List Int × Int × List S_api_Result => SB (k + 1 + 20 * ((j + 1 : Nat) : Int)) (S_gatemake_Stream.mk q.2.1 q.2.2.1) ∧ q.2.2.2.length = j + 1) fun r => r.1.length ≤ 18) := fun c34 c42 c43 c44 c45 hc => by
      unfold gatemake_Stream_Results_J4
      exact ok_g (by omega) (ok_some ⟨hc, by simp [g2]⟩)
    have hJ2 : ∀ (c32 : List Int) (c33 : Int) (c34 : Bs), SB (k + 1 + 20 * (j : Int) + 10) (S_gatemake_Stream.mk c32 c33) → Ok (gatemake_Stream_Results_J2 v5 l8 r13 r17 c32 c33 c34) (rd (fun q : Int × List Int × Int × List S_api_Result => SB (k + 1 + 20 * ((j + 1 : Nat) : Int)) (S_gatemake_Stream.mk q.2.1 q.2.2.1) ∧ q.2.2.2.length = j + 1) fun r => r.1.length ≤ 18) := fun c32 c33 c34 hc => by
      unfold gatemake_Stream_Results_J2
      refine ok_bind (flip_ok hc (by omega) _ (by omega)) fun a ha => ok_if (fun _ => ?_) (fun _ => hJ4 _ _ _ _ _ (ha.mono (by omega)))
      exact ok_bind (odd_ok ha (by omega) 0 50 (by omega)) fun b hb => ok_bind (odd_ok hb.2 (by omega) 100 599 (by omega)) fun c hc => hJ4 _ _ _ _ _ (hc.2.mono (by omega))
    have hJ3 : ∀ (v : Bool) (c : List Int) (a : Int), SB (k + 1 + 20 * (j : Int) + 6) (S_gatemake_Stream.mk c a) → (v = true → 0 < xs.length) → Ok (gatemake_Stream_Results_J3 xs v5 l8 r13 r15 r17 v c a) (rd (fun q : Int × List Int × Int × List S_api_Result => SB (k + 1 + 20 * ((j + 1 : Nat) : Int)) (S_gatemake_Stream.mk q.2.1 q.2.2.1) ∧ q.2.2.2.length = j + 1) fun r => r.1.length ≤ 18) := fun v c a hc hv => by
      unfold gatemake_Stream_Results_J3
      refine ok_if (fun h1 => ?_) (fun _ => hJ2 _ _ _ (hc.mono (by omega)))
      have hpos := hv h1
      refine ok_bind (next_ok hc (by omega) _ (by omega)) fun b hb => ?_
      have hb1 := hb.1.2.1 (by omega)
      have hat : Ok (at? xs b.1) fun _ => True := by
        unfold at?
        rw [if_pos hb.1.1, List.getElem?_eq_getElem (by omega)]
        exact ⟨_, rfl, trivial⟩
      exact ok_bind hat fun x _ => hJ2 _ _ _ (hb.2.mono (by omega))
    refine ok_if (fun hc => ?_) (fun _ => hJ3 _ _ _ (h17.2.mono (by omega)) (fun h => by cases h))
    exact ok_bind (flip_ok h17.2 (by omega) _ (by omega)) fun a ha => hJ3 _ _ _ (ha.mono (by omega)) (fun _ => by simpa using hc)
  · rintro ⟨v5, c6, c7, l8⟩ ⟨g1, g2⟩
    simp only at g1 g2 ⊢
    exact ok_some (by simp only; omega)
theorem eqSU (l : List Bs) (h : l.length ≤ 1000000000) : m_slices_Equal_L_string_string_ l l = some true :=
  gEql_self (fun x7 x10 : Bs => decide (x7 ≠ x10)) (fun x => by simp) l h
theorem lawU2 (r10 : (List Bs) × Int) (e : Int) (d : List Bs) (h1 : r10 = (d, e)) (hd : d.length ≤ 1000) : gatelaw2_OutliersOut_J2 r10 e d = some true := by
  subst h1
  unfold gatelaw2_OutliersOut_J2 gatelaw2_OutliersOut_J3
  simp only [decide_true, if_true]
  rw [eqSU d (by omega), balanced_eq]
  rfl
theorem outliersOut_plain (L : List Int) : m_gatelaw2_OutliersOut L = some true := by
  refine ok_eq ?_
  unfold m_gatelaw2_OutliersOut
  refine ok_bind (ins_ok (k := 0) ⟨by simp, by simp⟩ (by omega)) fun r2 h2 => ok_bind (outliers_ok h2.2 (by omega)) fun r4 h4 => ok_bind (pick_ok h4 (by omega) _ ⟨by simp, by simp⟩) fun r6 h6 => ok_bind (results_ok h6.2 (by omega) r2.1 h2.1.2) fun r8 h8 => ?_
  have hB := h2.1.1
  obtain ⟨d, d1, d2, d3, d4⟩ := out_eq2 r2.1 hB r4.1 r8.1 (by omega) r6.1
  rw [d1, ifault_eq _ hB, chkR _ hB _ (by omega), refR _ hB.len _ (by omega), (olf_eq r4.1).2, momF]
  simp only [Option.bind_some, errsU]
  unfold gatelaw2_OutliersOut_J1
  by_cases h1 : ciF r2.1 = 0
  · by_cases h5 : olF r4.1 = 0
    · by_cases h7 : rsF r2.1 r8.1 = 0
      · cases h9 : momP r6.1
        · have := d4 (by simp [h9])
          subst this
          simp [h1, h5, h7]
          exact ⟨true, lawU2 _ _ [] rfl (by simp), rfl⟩
        · have := d3 ⟨h1, h5, h7, h9⟩
          simp [h1, h5, h7, this]
          exact ⟨true, lawU2 _ _ d rfl d2, rfl⟩
      · have := d4 (by simp [h7])
        subst this
        simp [h1, h5, h7]
        exact ⟨true, lawU2 _ _ [] rfl (by simp), rfl⟩
    · have := d4 (by simp [h5])
      subst this
      simp [h1, h5]
      exact ⟨true, lawU2 _ _ [] rfl (by simp), rfl⟩
  · have := d4 (by simp [h1])
    subst this
    simp [h1]
    exact ⟨true, lawU2 _ _ [] rfl (by simp), rfl⟩
end Go.Proofs.Ytecnjgefohnkpaa
