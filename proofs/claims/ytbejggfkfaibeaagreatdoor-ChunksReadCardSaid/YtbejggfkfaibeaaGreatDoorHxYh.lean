/- Plain: numbers in hexadecimal: what FormatInt and ParseInt give at base 16. -/
import Derived.Test.YtbejggfkfaibeaaGreatDoorKeYh
import Derived.Test.YtbejggfkfaibeaaGreatDoorWoYh
namespace Go.Proofs.YtbejggfkfaibeaaGreatDoor
set_option linter.unusedVariables false
set_option maxRecDepth 20000
abbrev xdL : Bs := [48, 49, 50, 51, 52, 53, 54, 55, 56, 57, 97, 98, 99, 100, 101, 102]
def xd (n : Nat) : UInt8 := xdL.getD n 48
def xv (c : UInt8) : Nat := if c.toNat ≤ 57 then c.toNat - 48 else c.toNat - 87
def isX (c : UInt8) : Bool := xdL.contains c
theorem xd_at (c : UInt8) (h : isX c = true) : xd (xv c) = c ∧ xv c < 16 ∧ (xv c = 0 → c = 48) := by
  have := u8_all (fun c => !isX c || decide (xd (xv c) = c ∧ xv c < 16 ∧ (xv c = 0 → c = 48))) (by decide +kernel) c
  rw [h] at this
  exact of_decide_eq_true (by simpa only [Bool.not_true, Bool.false_or] using this)
theorem xv_at (n : Nat) (h : n < 16) : xv (xd n) = n ∧ isX (xd n) = true ∧ (xd n = 48 → n = 0) := by
  have : ∀ n, n < 16 → xv (xd n) = n ∧ isX (xd n) = true ∧ (xd n = 48 → n = 0) := by decide +kernel
  exact this n h
/-- a number in hexadecimal -/
def hexF (u : Nat) : Bs := if h : u < 16 then [xd u] else hexF (u / 16) ++ [xd (u % 16)]
termination_by u
decreasing_by omega
def hvB (l : Bs) : Nat := l.foldl (fun a c => a * 16 + xv c) 0
theorem hvB_snoc (l : Bs) (c : UInt8) : hvB (l ++ [c]) = hvB l * 16 + xv c := by simp [hvB, List.foldl_append]
theorem hexF_head : ∀ u : Nat, hexF u = [48] ∨ ∃ c t, hexF u = c :: t ∧ c ≠ 48 := by
  intro u
  induction u using Nat.strongRecOn with
  | _ u ih =>
    rw [hexF]
    split
    · rename_i h
      by_cases h0 : xd u = 48
      · exact .inl (by rw [h0])
      · exact .inr ⟨_, _, rfl, h0⟩
    · rename_i h
      rcases ih (u / 16) (by omega) with h1 | ⟨c, t, h1, h2⟩
      · exfalso
        have h3 : u / 16 < 16 ∧ xd (u / 16) = 48 := by
          rw [hexF] at h1
          split at h1
          · rename_i h4; exact ⟨h4, by simpa using h1⟩
          · have := congrArg List.length h1
            simp only [List.length_append, List.length_singleton] at this
            have h5 : hexF (u / 16 / 16) = [] := List.length_eq_zero_iff.1 (by omega)
            rw [hexF] at h5
            split at h5 <;> simp at h5
        have := (xv_at _ h3.1).2.2 h3.2
        omega
      · exact .inr ⟨c, t ++ [xd (u % 16)], by rw [h1]; rfl, h2⟩
theorem hexF_len : ∀ (k u : Nat), u < 16 ^ (k + 1) → (hexF u).length ≤ k + 1 := by
  intro k
  induction k with
  | zero =>
    intro u h
    rw [hexF, dif_pos (by simpa using h)]; simp
  | succ k ih =>
    intro u h
    rw [hexF]
    split
    · simp
    · have : u / 16 < 16 ^ (k + 1) := by
        rw [Nat.div_lt_iff_lt_mul (by decide)]
        rw [Nat.pow_succ] at h; exact h
      have := ih _ this
      simp; omega
/-- as a number is written -/
def canX (s : Bs) : Bool := s.all isX && (decide (s = [48]) || decide (s.head? ≠ some 48 ∧ s ≠ []))
theorem hexF_hv (s : Bs) : canX s = true → hexF (hvB s) = s ∧ (1 ≤ hvB s ∨ s = [48]) := by
  refine snocRec (P := fun s => canX s = true → hexF (hvB s) = s ∧ (1 ≤ hvB s ∨ s = [48])) (by decide) (fun p d ih h => ?_) s
  unfold canX at h
  simp only [Bool.and_eq_true, Bool.or_eq_true, decide_eq_true_eq, List.all_append, List.all_cons, List.all_nil, Bool.and_true] at h
  obtain ⟨⟨hp, hd⟩, hh⟩ := h
  obtain ⟨d1, d2, d3⟩ := xd_at d hd
  cases p with
  | nil =>
    have e : hvB ([] ++ [d]) = xv d := by simp [hvB]
    rw [e, hexF, dif_pos d2, d1]
    refine ⟨rfl, ?_⟩
    by_cases h0 : xv d = 0
    · exact .inr (by rw [d3 h0]; rfl)
    · exact .inl (by omega)
  | cons c t =>
    have hc : c ≠ 48 := by
      rcases hh with h1 | ⟨h1, _⟩
      · have := congrArg List.length h1; simp at this
      · intro h2; rw [h2] at h1; exact h1 rfl
    have hcan : canX (c :: t) = true := by
      unfold canX
      rw [hp]
      simp [hc]
    obtain ⟨i1, i2⟩ := ih hcan
    have i3 : 1 ≤ hvB (c :: t) := by
      rcases i2 with h | h
      · exact h
      · exact absurd (List.cons.inj h).1 hc
    rw [hvB_snoc]
    have e1 : (hvB (c :: t) * 16 + xv d) / 16 = hvB (c :: t) := by omega
    have e2 : (hvB (c :: t) * 16 + xv d) % 16 = xv d := by omega
    rw [hexF, dif_neg (by omega), e1, e2, i1, d1]
    exact ⟨rfl, .inl (by omega)⟩
theorem hexF_can (u : Nat) (s : Bs) (h : s = hexF u) : s = [48] ∨ s.head? ≠ some 48 := by
  subst h
  rcases hexF_head u with h | ⟨c, t, h, hc⟩
  · exact .inl h
  · exact .inr (by rw [h]; simpa using hc)
theorem hvB_lt : ∀ (k : Nat) (s : Bs), s.all isX = true → s.length ≤ k → hvB s < 16 ^ k := by
  intro k
  induction k with
  | zero => intro s _ h; obtain rfl : s = [] := List.length_eq_zero_iff.1 (by omega); decide
  | succ k ih =>
    intro s
    refine snocRec (P := fun s => s.all isX = true → s.length ≤ k + 1 → hvB s < 16 ^ (k + 1)) (fun _ _ => Nat.pow_pos (by decide)) (fun p d _ h1 h2 => ?_) s
    simp only [List.all_append, List.all_cons, List.all_nil, Bool.and_true, Bool.and_eq_true] at h1
    have h3 := ih p h1.1 (by simp at h2; omega)
    have h4 := (xd_at d h1.2).2.1
    rw [hvB_snoc, Nat.pow_succ]
    omega
/-- FormatInt at base 16 -/
theorem fmtdig (n : Nat) (h : n < 16) : at? ([48, 49, 50, 51, 52, 53, 54, 55, 56, 57, 97, 98, 99, 100, 101, 102, 103, 104, 105, 106, 107, 108, 109, 110, 111, 112, 113, 114, 115, 116, 117, 118, 119, 120, 121, 122] : Bs) (n : Int) = some (xd n) := by
  have : ∀ n, n < 16 → at? ([48, 49, 50, 51, 52, 53, 54, 55, 56, 57, 97, 98, 99, 100, 101, 102, 103, 104, 105, 106, 107, 108, 109, 110, 111, 112, 113, 114, 115, 116, 117, 118, 119, 120, 121, 122] : Bs) ((n : Nat) : Int) = some (xd n) := by decide +kernel
  exact this n h
theorem shr16 (x : Nat) : shr_ .u64 (x : Int) 4 = ((x / 16 : Nat) : Int) := by
  show (x : Int).fdiv (2 ^ (min (4 : Int).toNat IntKind.u64.bits)) = _
  have : min (4 : Int).toNat IntKind.u64.bits = 4 := by decide
  rw [this, Int.fdiv_eq_ediv_of_nonneg _ (by decide)]
  push_cast; rfl
theorem and16 (x : Nat) (h : x ≤ 1000000000000) : and_ .u64 (x : Int) 15 = ((x % 16 : Nat) : Int) := by
  show IntKind.wrap .u64 (((BitVec.ofInt IntKind.u64.bits (x : Int) &&& BitVec.ofInt IntKind.u64.bits ((15 : Nat) : Int)).toNat : Nat) : Int) = _
  have hbits : IntKind.u64.bits = 64 := rfl
  rw [hbits, BitVec.ofInt_natCast, BitVec.ofInt_natCast, BitVec.toNat_and, BitVec.toNat_ofNat, BitVec.toNat_ofNat, Nat.mod_eq_of_lt (by omega), Nat.mod_eq_of_lt (by omega), show 15 = 2 ^ 4 - 1 from rfl, Nat.and_two_pow_sub_one_eq_mod]
  exact u64_id (by omega)
theorem drop_set (a : List Int) (i : Nat) (d : UInt8) (h : i < a.length) : strN ((a.set i (d.toNat : Int)).drop i) = d :: strN (a.drop (i + 1)) := by
  have e : (a.set i (d.toNat : Int)).drop i = (d.toNat : Int) :: a.drop (i + 1) := by
    rw [List.drop_eq_getElem_cons (by simpa using h)]
    simp [List.drop_set]
  rw [e]
  simp [strN]
theorem fmtI : ∀ (i u : Nat) (a : List Int), u < 16 ^ (i + 1) → u ≤ 1000000000000 → i + 1 ≤ 65 → a.length = 65 →
    iter (fun (s : Int × Int × (List Int)) => internal_strconv_formatBits_L4 16 false false 4 s.1 s.2.1 s.2.2) ((u : Int), ((i + 1 : Nat) : Int), a) = some ([], hexF u ++ strN (a.drop (i + 1))) := by
  intro i
  induction i with
  | zero =>
    intro u a hu hb hi ha
    have hu : u < 16 := by simpa using hu
    refine iter_out (body := fun (s : Int × Int × (List Int)) => internal_strconv_formatBits_L4 16 false false 4 s.1 s.2.1 s.2.2) (s := ((u : Int), ((0 + 1 : Nat) : Int), a)) ?_
    show internal_strconv_formatBits_L4 16 false false 4 (u : Int) 1 a = _
    unfold internal_strconv_formatBits_L4 internal_strconv_formatBits_J3 internal_strconv_formatBits_J2 internal_strconv_formatBits_J7
    have e16 : IntKind.wrap .u64 16 = 16 := by decide
    rw [e16, if_neg (by simp; omega), fmtdig u hu]
    simp only [Option.bind_some, Bool.false_eq_true, if_false]
    have hw : wr ((1 : Int) - 1) = 0 := by decide
    rw [hw, if_pos (by omega), if_pos (by simp; omega), if_pos (by simpa using ha), if_pos (by omega)]
    have := drop_set a 0 (xd u) (by omega)
    rw [hexF, dif_pos hu]
    simpa using this
  | succ i ih =>
    intro u a hu hb hi ha
    have e16 : IntKind.wrap .u64 16 = 16 := by decide
    have e15 : IntKind.wrap .u64 (16 - 1) = 15 := by decide
    have e4 : IntKind.wrap .u64 4 = 4 := by decide
    have hw : wr (((i + 1 + 1 : Nat) : Int) - 1) = ((i + 1 : Nat) : Int) := by rw [wr_id (by omega)]; omega
    by_cases h16 : u < 16
    · refine iter_out (body := fun (s : Int × Int × (List Int)) => internal_strconv_formatBits_L4 16 false false 4 s.1 s.2.1 s.2.2) (s := ((u : Int), ((i + 1 + 1 : Nat) : Int), a)) ?_
      show internal_strconv_formatBits_L4 16 false false 4 (u : Int) ((i + 1 + 1 : Nat) : Int) a = _
      unfold internal_strconv_formatBits_L4 internal_strconv_formatBits_J3 internal_strconv_formatBits_J2 internal_strconv_formatBits_J7
      rw [e16, if_neg (by simp; omega), fmtdig u h16]
      simp only [Option.bind_some, Bool.false_eq_true, if_false]
      rw [hw, if_pos (by omega), Int.toNat_natCast, if_pos (by omega), if_pos (by simpa using ha), if_pos (by omega)]
      have := drop_set a (i + 1) (xd u) (by omega)
      rw [hexF, dif_pos h16, this]
      rfl
    · have hs : internal_strconv_formatBits_L4 16 false false 4 (u : Int) ((i + 1 + 1 : Nat) : Int) a = some (.inl (((u / 16 : Nat) : Int), ((i + 1 : Nat) : Int), a.set (i + 1) ((xd (u % 16)).toNat : Int))) := by
        unfold internal_strconv_formatBits_L4
        rw [e16, if_pos (by simp; omega), e15, and16 u hb, fmtdig _ (Nat.mod_lt _ (by decide))]
        simp only [Option.bind_some]
        rw [hw, if_pos (by omega), Int.toNat_natCast, if_pos (by omega), e4, if_pos (by decide), shr16]
      have hq : u / 16 < 16 ^ (i + 1) := by
        rw [Nat.div_lt_iff_lt_mul (by decide)]
        rw [Nat.pow_succ] at hu; exact hu
      rw [iter_in (body := fun (s : Int × Int × (List Int)) => internal_strconv_formatBits_L4 16 false false 4 s.1 s.2.1 s.2.2) (s := ((u : Int), ((i + 1 + 1 : Nat) : Int), a)) hs, ih (u / 16) _ hq (by omega) (by omega) (by simpa using ha), drop_set a (i + 1) _ (by omega)]
      conv => rhs; rw [hexF, dif_neg h16]
      simp
theorem format_eq (n : Nat) (h : n ≤ 1000000000000) : m_strconv_FormatInt (n : Int) 16 = some (hexF n) := by
  have hi := fmtI 64 n (List.replicate 65 0) (Nat.lt_of_le_of_lt h (by decide)) h (by omega) (by simp)
  have htz : m_bits_TrailingZeros (IntKind.wrap .u64 16) = some 4 := by decide +kernel
  have hp : decide (and_ .i64 16 (wr (16 - 1)) = 0) = true := by decide +kernel
  have hn : decide ((n : Int) < 0) = false := by simp
  have hu : IntKind.wrap .u64 (n : Int) = (n : Int) := u64_id (by omega)
  have hi' : iter (fun (s : Int × Int × (List Int)) => internal_strconv_formatBits_L4 16 false false 4 s.1 s.2.1 s.2.2) ((n : Int), 65, (List.replicate 65 0)) = some ([], hexF n) := by
    have e : strN ((List.replicate 65 (0 : Int)).drop (64 + 1)) = [] := by decide
    rw [e, List.append_nil] at hi
    exact hi
  unfold m_strconv_FormatInt m_internal_strconv_FormatInt m_internal_strconv_formatBits internal_strconv_formatBits_J1 m_internal_strconv_isPowerOfTwo
  rw [hn, hu]
  simp only [hp, Option.bind_some, if_true, htz, hi', show decide ((16 : Int) = 10) = false from rfl, show decide ((16 : Int) < 2) = false from rfl, show decide ((36 : Int) < 16) = false from rfl, Bool.or_self, Bool.false_eq_true, if_false]
/-- ParseInt at base 16 -/
theorem dig16 (k : Nat) (c : UInt8) (v : Int) (h : isX c = true) : internal_strconv_ParseUint_L7 16 16 64 1152921504606846976 k (c.toNat : Int) false v = internal_strconv_ParseUint_J10 16 64 1152921504606846976 false v (xv c : Int) := by
  have key := u8_all (fun c => !isX c || decide ((c.toNat ≤ 57 ∧ 48 ≤ c.toNat ∧ IntKind.wrap .u8 ((c.toNat : Int) - 48) = (xv c : Int)) ∨ (57 < c.toNat ∧ m_internal_strconv_lower (c.toNat : Int) = some (c.toNat : Int) ∧ 97 ≤ c.toNat ∧ c.toNat ≤ 122 ∧ IntKind.wrap .u8 ((IntKind.wrap .u8 ((c.toNat : Int) - 97)) + 10) = (xv c : Int)))) (by decide +kernel) c
  rw [h] at key
  simp only [Bool.not_true, Bool.false_or, decide_eq_true_eq] at key
  unfold internal_strconv_ParseUint_L7 internal_strconv_ParseUint_J11
  rw [if_neg (by simp)]
  rcases key with ⟨k1, k2, k3⟩ | ⟨k1, k2, k3, k4, k5⟩
  · rw [if_pos (by simp; omega), k3]
  · rw [if_neg (by simp; omega), k2]
    simp only [Option.bind_some]
    rw [if_pos (by simp; omega), if_pos (by simp; omega), k5]
theorem j10 (v d : Nat) (hd : d < 16) (hv : v ≤ 1000000000000) : internal_strconv_ParseUint_J10 16 64 1152921504606846976 false (v : Int) (d : Int) = some (.inl (false, ((v * 16 + d : Nat) : Int))) := by
  have e8 : IntKind.wrap .u8 16 = 16 := by decide
  have e64 : IntKind.wrap .u64 16 = 16 := by decide
  have em : IntKind.wrap .u64 ((shl_ .u64 1 (IntKind.wrap .u64 64)) - 1) = 18446744073709551615 := by decide +kernel
  have e1 : IntKind.wrap .u64 ((v : Int) * 16) = (v : Int) * 16 := u64_id (by omega)
  have e2 : IntKind.wrap .u64 (d : Int) = (d : Int) := u64_id (by omega)
  have e3 : IntKind.wrap .u64 ((v : Int) * 16 + (d : Int)) = (v : Int) * 16 + (d : Int) := u64_id (by omega)
  unfold internal_strconv_ParseUint_J10 internal_strconv_ParseUint_J9
  rw [e8, e64, em, e1, e2, e3, if_neg (by simp; omega), if_neg (by simp; omega), if_neg (by simp; omega)]
  congr 3
theorem prsL (E : Bool → Int → Option (Int × Int)) : ∀ (s : Bs) (k j v : Nat), s.all isX = true → j + s.length ≤ 9 → v < 16 ^ j →
    forL (fun (k : Nat) (x : Int) (q : Bool × Int) => internal_strconv_ParseUint_L7 16 16 64 1152921504606846976 k x q.1 q.2) (fun (q : Bool × Int) => E q.1 q.2) k (numsB s) (false, (v : Int)) = E false ((s.foldl (fun a c => a * 16 + xv c) v : Nat) : Int)
  | [], k, j, v, _, _, _ => rfl
  | c :: s, k, j, v, h, hj, hv => by
    simp only [List.all_cons, Bool.and_eq_true] at h
    simp only [List.length_cons] at hj
    have hd := (xd_at c h.1).2.1
    have h9 : 16 ^ j ≤ 16 ^ 9 := Nat.pow_le_pow_right (by decide) (by omega)
    show (internal_strconv_ParseUint_L7 16 16 64 1152921504606846976 k (c.toNat : Int) false (v : Int)).bind _ = _
    rw [dig16 k c _ h.1, j10 v _ hd (by omega)]
    simp only [Option.bind_some, after]
    exact (prsL E s (k + 1) (j + 1) (v * 16 + xv c) h.2 (by omega) (by rw [Nat.pow_succ]; omega)).trans rfl
theorem prsU (s : Bs) (hne : s ≠ []) (hl : s.length ≤ 100000000) : m_internal_strconv_ParseUint s 16 64 = forL (fun (k : Nat) (x : Int) (q : Bool × Int) => internal_strconv_ParseUint_L7 16 16 64 1152921504606846976 k x q.1 q.2) (fun (q : Bool × Int) => internal_strconv_ParseUint_E7 s q.1 q.2) 0 (numsB s) (false, 0) := by
  have e64 : IntKind.wrap .u64 64 = 64 := by decide
  unfold m_internal_strconv_ParseUint internal_strconv_ParseUint_J1 internal_strconv_ParseUint_J5 internal_strconv_ParseUint_J6
  rw [if_neg (by simpa using hne), if_pos (by decide), if_neg (by decide), if_neg (by decide), if_neg (by decide), if_pos (by decide), if_pos (by decide), if_pos (by rw [nums_len]; omega)]
theorem parse_eq (s : Bs) (hne : s ≠ []) (hx : s.all isX = true) (hl : s.length ≤ 8) : m_strconv_ParseInt s 16 64 = some ((hvB s : Int), 0) := by
  have hv := hvB_lt 8 s hx hl
  have hu : m_internal_strconv_ParseUint s 16 64 = some ((hvB s : Int), 0) := by
    rw [prsU s hne (by omega)]
    refine (prsL (fun a b => internal_strconv_ParseUint_E7 s a b) s 0 0 0 hx (by omega) (by decide)).trans ?_
    rfl
  have hi : m_internal_strconv_ParseInt s 16 64 = some ((hvB s : Int), 0) := by
    have hJ : internal_strconv_ParseInt_J1 16 64 s false = some ((hvB s : Int), 0) := by
      have es : shl_ .u64 1 (IntKind.wrap .u64 (wr (64 - 1))) = 9223372036854775808 := by decide +kernel
      have ew : IntKind.wrap .i64 (hvB s : Int) = (hvB s : Int) := wr_id (by omega)
      unfold internal_strconv_ParseInt_J1 internal_strconv_ParseInt_J2 internal_strconv_ParseInt_J3 internal_strconv_ParseInt_J4
      rw [hu]
      simp only [Option.bind_some]
      rw [if_neg (by simp), if_neg (by simp), if_neg (by simp), if_pos (by decide), es, if_neg (by simp; omega), if_neg (by simp), ew]
      simp
    unfold m_internal_strconv_ParseInt
    rw [if_neg (by simpa using hne)]
    cases s with
    | nil => exact absurd rfl hne
    | cons c t =>
      simp only [List.all_cons, Bool.and_eq_true] at hx
      have hc := u8_all (fun c => !isX c || decide ((c.toNat : Int) ≠ 43 ∧ (c.toNat : Int) ≠ 45)) (by decide +kernel) c
      rw [hx.1] at hc
      simp only [Bool.not_true, Bool.false_or, decide_eq_true_eq] at hc
      simp only [List.getElem?_cons_zero, Option.bind_some]
      rw [if_neg (by simpa using hc.1), if_neg (by simpa using hc.2)]
      exact hJ
  unfold m_strconv_ParseInt
  rw [hi]
  rfl
theorem u8_rng (n : Int) : 0 ≤ IntKind.wrap .u8 n ∧ IntKind.wrap .u8 n ≤ 255 := by
  unfold IntKind.wrap
  simp [IntKind.bits, IntKind.signed]
  omega
theorem u64_rng (n : Int) : 0 ≤ IntKind.wrap .u64 n ∧ IntKind.wrap .u64 n ≤ 18446744073709551615 := by
  unfold IntKind.wrap
  simp [IntKind.bits, IntKind.signed]
  omega
theorem digAny (k : Nat) (c : UInt8) (v : Int) : (∃ d : Int, 0 ≤ d ∧ internal_strconv_ParseUint_L7 16 16 64 1152921504606846976 k (c.toNat : Int) false v = internal_strconv_ParseUint_J10 16 64 1152921504606846976 false v d) ∨ internal_strconv_ParseUint_L7 16 16 64 1152921504606846976 k (c.toNat : Int) false v = some (.inr (0, 2)) := by
  unfold internal_strconv_ParseUint_L7 internal_strconv_ParseUint_J11 m_internal_strconv_lower
  rw [if_neg (by simp)]
  simp only [Option.bind_some]
  split
  · exact .inl ⟨_, (u8_rng _).1, rfl⟩
  · split
    · cases decide (or_ .u8 (c.toNat : Int) 32 ≤ 122)
      · exact .inr rfl
      · exact .inl ⟨_, (u8_rng _).1, rfl⟩
    · exact .inr rfl
theorem uintAny (s : Bs) (hl : s.length ≤ 100000000) : Ok (m_internal_strconv_ParseUint s 16 64) fun r => (0 ≤ r.1 ∧ r.1 ≤ 18446744073709551615) ∧ (r.2 = 0 ∨ r.2 = 1 ∨ r.2 = 2) := by
  by_cases hne : s = []
  · subst hne; exact ⟨(0, 2), rfl, by simp, by simp⟩
  rw [prsU s hne hl]
  refine ok_forL (fun _ (q : Bool × Int) => q.1 = false ∧ 0 ≤ q.2 ∧ q.2 ≤ 18446744073709551615) _ _ _ ⟨rfl, by simp, by simp⟩ ?_ ?_
  · rintro j x ⟨b, v⟩ _ hx ⟨h1, h2, h3⟩
    simp only at h1 h2 h3 ⊢
    subst h1
    obtain ⟨c, rfl⟩ : ∃ c : UInt8, x = (c.toNat : Int) := by
      have := List.mem_of_getElem? hx
      unfold numsB at this
      obtain ⟨c, _, hc⟩ := List.mem_map.1 this
      exact ⟨c, hc.symm⟩
    rcases digAny j c v with ⟨d, hd, e⟩ | e
    · rw [e]
      unfold internal_strconv_ParseUint_J10 internal_strconv_ParseUint_J9
      have em : IntKind.wrap .u64 ((shl_ .u64 1 (IntKind.wrap .u64 64)) - 1) = 18446744073709551615 := by decide +kernel
      rw [em]
      refine ok_if (fun _ => ok_some ?_) (fun _ => ok_if (fun _ => ok_some ?_) (fun _ => ok_if (fun _ => ok_some ?_) (fun _ => ok_some ?_)))
      · exact ⟨by simp, by simp⟩
      · exact ⟨by simp, by simp⟩
      · exact ⟨by simp, by simp⟩
      · exact ⟨rfl, u64_rng _⟩
    · rw [e]; exact ok_some ⟨by simp, by simp⟩
  · rintro ⟨b, v⟩ ⟨h1, h2, h3⟩
    simp only at h1 h2 h3 ⊢
    subst h1
    unfold internal_strconv_ParseUint_E7 internal_strconv_ParseUint_J8
    exact ok_some ⟨⟨h2, h3⟩, by simp⟩
theorem uintShort (s : Bs) (hl : s.length ≤ 9) : Ok (m_internal_strconv_ParseUint s 16 64) fun r => (0 ≤ r.1 ∧ r.1 < 68719476736) ∧ (r.2 = 0 ∨ r.2 = 2) := by
  by_cases hne : s = []
  · subst hne; exact ⟨(0, 2), rfl, by simp, by simp⟩
  rw [prsU s hne (by omega)]
  refine ok_forL (fun j (q : Bool × Int) => q.1 = false ∧ 0 ≤ q.2 ∧ q.2 < ((16 ^ j : Nat) : Int)) _ _ _ ⟨rfl, by simp, by simp⟩ ?_ ?_
  · rintro j x ⟨b, v⟩ _ hx ⟨h1, h2, h3⟩
    simp only at h1 h2 h3 ⊢
    subst h1
    have hj : j < 9 := by
      have := (List.getElem?_eq_some_iff.1 hx).1
      rw [nums_len] at this
      omega
    obtain ⟨c, rfl⟩ : ∃ c : UInt8, x = (c.toNat : Int) := by
      have := List.mem_of_getElem? hx
      unfold numsB at this
      obtain ⟨c, _, hc⟩ := List.mem_map.1 this
      exact ⟨c, hc.symm⟩
    have hp : 16 ^ j ≤ 16 ^ 8 := Nat.pow_le_pow_right (by decide) (by omega)
    rcases digAny j c v with ⟨d, hd, e⟩ | e
    · rw [e]
      by_cases h16 : d < 16
      · obtain ⟨dn, rfl⟩ := Int.eq_ofNat_of_zero_le hd
        obtain ⟨vn, rfl⟩ := Int.eq_ofNat_of_zero_le h2
        rw [j10 vn dn (by omega) (by omega)]
        exact ok_some ⟨rfl, by simp only; omega, by simp only [Nat.pow_succ]; omega⟩
      · unfold internal_strconv_ParseUint_J10
        have e8 : IntKind.wrap .u8 16 = 16 := by decide
        rw [e8, if_pos (by simp; omega)]
        exact ok_some ⟨by simp, by simp⟩
    · rw [e]; exact ok_some ⟨by simp, by simp⟩
  · rintro ⟨b, v⟩ ⟨h1, h2, h3⟩
    simp only at h1 h2 h3 ⊢
    subst h1
    have hp : 16 ^ (0 + (numsB s).length) ≤ 16 ^ 9 := Nat.pow_le_pow_right (by decide) (by rw [nums_len]; omega)
    unfold internal_strconv_ParseUint_E7 internal_strconv_ParseUint_J8
    refine ok_some ⟨⟨h2, ?_⟩, by simp⟩
    have : (16 ^ 9 : Nat) = 68719476736 := by decide
    omega
theorem parse_any (s : Bs) (hl : s.length ≤ 1000000) (hm : s.head? = some 45 → s.length ≤ 10) : ∃ v e, m_strconv_ParseInt s 16 64 = some (v, e) := by
  have es : shl_ .u64 1 (IntKind.wrap .u64 (wr (64 - 1))) = 9223372036854775808 := by decide +kernel
  have hJ0 : ∀ t : Bs, t.length ≤ 1000000 → Ok (internal_strconv_ParseInt_J1 16 64 t false) fun r => r.2 = 0 ∨ r.2 = 1 ∨ r.2 = 2 := by
    intro t ht
    unfold internal_strconv_ParseInt_J1
    refine ok_bind (uintAny t (by omega)) fun r hr => ?_
    have hJ3 : Ok (internal_strconv_ParseInt_J3 false r 64) fun r => r.2 = 0 ∨ r.2 = 1 ∨ r.2 = 2 := by
      unfold internal_strconv_ParseInt_J3 internal_strconv_ParseInt_J4
      rw [if_pos (by decide), es]
      refine ok_if (fun _ => ok_some (by simp)) (fun _ => ?_)
      rw [if_neg (by simp), if_neg (by simp)]
      exact ok_some (by simp)
    refine ok_if (fun _ => ok_g (by omega) ?_) (fun _ => ?_)
    · unfold internal_strconv_ParseInt_J2
      refine ok_if (fun _ => ok_some hr.2) (fun _ => ?_)
      rw [if_neg (by decide)]
      exact hJ3
    · unfold internal_strconv_ParseInt_J2
      rw [if_neg (by simp), if_neg (by decide)]
      exact hJ3
  have hJ1 : ∀ t : Bs, t.length ≤ 9 → Ok (internal_strconv_ParseInt_J1 16 64 t true) fun r => r.2 = 0 ∨ r.2 = 1 ∨ r.2 = 2 := by
    intro t ht
    unfold internal_strconv_ParseInt_J1
    refine ok_bind (uintShort t ht) fun r hr => ?_
    have ew : IntKind.wrap .i64 r.1 = r.1 := wr_id (by omega)
    have hJ3 : Ok (internal_strconv_ParseInt_J3 true r 64) fun r => r.2 = 0 ∨ r.2 = 1 ∨ r.2 = 2 := by
      unfold internal_strconv_ParseInt_J3 internal_strconv_ParseInt_J4
      rw [if_pos (by decide), es, if_neg (by simp), if_neg (by simp; omega), if_pos (by simp), ew]
      exact ok_g (by omega) (ok_some (by simp))
    refine ok_if (fun _ => ok_g (by omega) ?_) (fun _ => ?_)
    · unfold internal_strconv_ParseInt_J2
      refine ok_if (fun _ => ok_some (by omega)) (fun _ => ?_)
      rw [if_neg (by decide)]
      exact hJ3
    · unfold internal_strconv_ParseInt_J2
      rw [if_neg (by simp), if_neg (by decide)]
      exact hJ3
  have hI : Ok (m_internal_strconv_ParseInt s 16 64) fun r => r.2 = 0 ∨ r.2 = 1 ∨ r.2 = 2 := by
    unfold m_internal_strconv_ParseInt
    cases s with
    | nil => exact ok_some (by simp)
    | cons c t =>
      rw [if_neg (by simp)]
      simp only [List.getElem?_cons_zero, Option.bind_some]
      have hsub : sub? (c :: t) 1 ((c :: t).length : Int) = some t := by
        unfold sub?
        rw [if_pos (by simp only [List.length_cons]; omega), List.take_of_length_le (by simp)]; rfl
      rw [hsub]
      simp only [Option.bind_some]
      simp only [List.length_cons] at hl hm
      refine ok_if (fun _ => hJ0 t (by omega)) (fun _ => ok_if (fun h => hJ1 t ?_) (fun _ => hJ0 (c :: t) (by simp only [List.length_cons]; omega)))
      have hc : c = 45 := UInt8.toNat_inj.1 (by have := of_decide_eq_true h; simp; omega)
      have := hm (by rw [hc]; rfl)
      omega
  obtain ⟨r, h1, h2⟩ := hI
  unfold m_strconv_ParseInt
  rw [h1]
  simp only [Option.bind_some]
  by_cases h0 : r.2 = 0
  · rw [if_neg (by simpa using h0)]; exact ⟨_, _, rfl⟩
  · rw [if_pos (by simpa using h0)]
    unfold m_strconv_toError
    rw [if_pos ⟨by simp, by omega, by omega⟩]
    exact ⟨_, _, rfl⟩
end Go.Proofs.YtbejggfkfaibeaaGreatDoor
