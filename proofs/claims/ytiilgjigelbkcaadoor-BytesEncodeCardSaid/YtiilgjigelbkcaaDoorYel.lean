/- Plain: sums; the law BytesEncode is true for every list of numbers. -/
import Derived.Test.YtiilgjigelbkcaaDoorYek
namespace Go.Proofs.YtiilgjigelbkcaaDoor
set_option linter.unusedVariables false
set_option maxRecDepth 20000
/-- one step of a sum -/
def hst (h : Int) (c : UInt8) : Int := IntKind.wrap .u64 ((xor_ .u64 h (IntKind.wrap .u64 (c.toNat : Int))) * 1099511628211)
theorem u64_rng (n : Int) : 0 ≤ IntKind.wrap .u64 n ∧ IntKind.wrap .u64 n ≤ 18446744073709551615 := by
  unfold IntKind.wrap
  simp [IntKind.bits, IntKind.signed]
  omega
theorem hst_rng (l : Bs) : ∀ h : Int, (0 ≤ h ∧ h ≤ 18446744073709551615) → 0 ≤ l.foldl hst h ∧ l.foldl hst h ≤ 18446744073709551615 := by
  induction l with
  | nil => intro h hh; exact hh
  | cons c l ih => intro h _; exact ih _ (u64_rng _)
theorem fold_forL {ρ : Type} {body : Nat → UInt8 → Int → Option (Int ⊕ ρ)} {fin : Int → Option ρ} (hb : ∀ k c h, body k c h = some (.inl (hst h c))) : ∀ (l : Bs) (k : Nat) (h : Int), forL body fin k l h = fin (l.foldl hst h)
  | [], k, h => rfl
  | c :: l, k, h => by
    show (body k c h).bind _ = _
    rw [hb]
    exact fold_forL hb l (k + 1) _
theorem sum_part (k : Nat) (x : Bs) (h : Int) (hx : x.length ≤ 1000000000) : token_sum_L1 k x h = some (.inl (x.foldl hst h)) := by
  unfold token_sum_L1
  rw [if_pos hx, fold_forL (body := fun (k : Nat) (x : UInt8) (s : Int) => token_sum_L3 k x s) (fun _ _ _ => rfl)]
  rfl
theorem sum_forL : ∀ (ls : List Bs) (k : Nat) (h : Int), (∀ x, x ∈ ls → x.length ≤ 1000000000) → forL (fun (k : Nat) (x : Bs) (s : Int) => token_sum_L1 k x s) (fun (s : Int) => token_sum_E1 s) k ls h = token_sum_E1 (ls.foldl (fun h x => x.foldl hst h) h)
  | [], k, h, _ => rfl
  | x :: ls, k, h, hx => by
    show (token_sum_L1 k x h).bind _ = _
    rw [sum_part k x h (hx x (by simp))]
    exact sum_forL ls (k + 1) _ fun y hy => hx y (by simp [hy])
def mixH (h : Int) : Int := IntKind.wrap .u64 ((xor_ .u64 h (shr_ .u64 h 29)) * 13787848793156543929)
/-- sixteen signs -/
theorem hex_ok (h : Int) (hh : 0 ≤ h ∧ h ≤ 18446744073709551615) : Ok (m_gateref2_hex16 h) fun r => r.length ≤ 100 := by
  unfold m_gateref2_hex16
  have hf : Ok (m_strconv_FormatUint h 16) fun r => r.length ≤ 16 := by
    unfold m_strconv_FormatUint m_internal_strconv_FormatUint m_internal_strconv_formatBits internal_strconv_formatBits_J1 m_internal_strconv_isPowerOfTwo
    rw [if_neg (by decide), if_neg (by decide), if_neg (by decide)]
    have hp : decide (and_ .i64 16 (wr (16 - 1)) = 0) = true := by decide +kernel
    have htz : m_bits_TrailingZeros (IntKind.wrap .u64 16) = some 4 := by decide +kernel
    simp only [hp, Option.bind_some, if_true, htz]
    refine ok_bind (Q := fun r => r.length ≤ 16) (ok_bind (Q := fun r => r.2.length ≤ 16) ?_ fun r hr => ok_some hr) fun r hr => ok_some hr
    have h16p : h.toNat < 16 ^ (16 - 0) := by
      have : (16 : Nat) ^ (16 - 0) = 18446744073709551616 := by decide
      rw [this]; omega
    refine ok_iter (fun s : Int × Int × List Int => ∃ v j : Nat, s.1 = (v : Int) ∧ s.2.1 = ((65 - j : Nat) : Int) ∧ j ≤ 15 ∧ s.2.2.length = 65 ∧ v < 16 ^ (16 - j)) (fun s => s.1.toNat) ?_ _ ⟨h.toNat, 0, by simp; omega, rfl, by omega, by simp, h16p⟩
    rintro ⟨v, i, l⟩ ⟨v, j, rfl, rfl, hj, hl, hv⟩
    simp only at hl ⊢
    have e16 : IntKind.wrap .u64 16 = 16 := by decide
    have e15 : IntKind.wrap .u64 (16 - 1) = 15 := by decide
    have hdig : ∀ u : Nat, u < 16 → Ok (at? ([48, 49, 50, 51, 52, 53, 54, 55, 56, 57, 97, 98, 99, 100, 101, 102, 103, 104, 105, 106, 107, 108, 109, 110, 111, 112, 113, 114, 115, 116, 117, 118, 119, 120, 121, 122] : Bs) (u : Int)) fun _ => True := by
      intro u hu
      rw [at_nat, List.getElem?_eq_getElem (by simp; omega)]
      exact ⟨_, rfl, trivial⟩
    have ew : wr (((65 - j : Nat) : Int) - 1) = ((64 - j : Nat) : Int) := by rw [wr_id (by omega)]; omega
    unfold internal_strconv_formatBits_L4
    rw [e16, e15, ew]
    by_cases h16 : 16 ≤ v
    · rw [if_pos (by simp; omega)]
      have hj2 : j ≤ 14 := by
        rcases Nat.lt_or_ge 14 j with hq | hq
        · have : j = 15 := by omega
          subst this
          simp at hv; omega
        · exact hq
      have e1 : and_ .u64 (v : Int) 15 = ((v % 16 : Nat) : Int) := by
        show IntKind.wrap .u64 (((BitVec.ofInt IntKind.u64.bits (v : Int) &&& BitVec.ofInt IntKind.u64.bits ((15 : Nat) : Int)).toNat : Nat) : Int) = _
        have hbits : IntKind.u64.bits = 64 := rfl
        have hv2 : v < 2 ^ 64 := Nat.lt_of_lt_of_le hv (Nat.le_trans (Nat.pow_le_pow_right (by decide) (show 16 - j ≤ 16 by omega)) (by decide))
        rw [hbits, BitVec.ofInt_natCast, BitVec.ofInt_natCast, BitVec.toNat_and, BitVec.toNat_ofNat, BitVec.toNat_ofNat, Nat.mod_eq_of_lt hv2, Nat.mod_eq_of_lt (by omega), show 15 = 2 ^ 4 - 1 from rfl, Nat.and_two_pow_sub_one_eq_mod]
        exact u64_id (by omega)
      have e4 : IntKind.wrap .u64 4 = 4 := by decide
      have e2 : shr_ .u64 (v : Int) 4 = ((v / 16 : Nat) : Int) := by
        show (v : Int).fdiv (2 ^ (min (4 : Int).toNat IntKind.u64.bits)) = _
        have : min (4 : Int).toNat IntKind.u64.bits = 4 := by decide
        rw [this, Int.fdiv_eq_ediv_of_nonneg _ (by decide)]
        rfl
      rw [e1]
      refine ok_bind (hdig (v % 16) (Nat.mod_lt _ (by decide))) fun x _ => ok_g (by omega) (ok_g (by omega) ?_)
      rw [e4, e2]
      refine ok_g (by omega) (ok_some ⟨⟨v / 16, j + 1, rfl, ?_, by omega, by simp [hl], ?_⟩, ?_⟩)
      · have : 64 - j = 65 - (j + 1) := by omega
        rw [this]
      · obtain ⟨m, hm⟩ : ∃ m, 16 - j = m + 1 := ⟨15 - j, by omega⟩
        rw [hm, Nat.pow_succ] at hv
        rw [show 16 - (j + 1) = m by omega]
        omega
      · simp only [Int.toNat_natCast]; omega
    · rw [if_neg (by simp; omega)]
      have hJ : Ok (internal_strconv_formatBits_J3 false false (v : Int) ((65 - j : Nat) : Int) l) fun r => r.2.length ≤ 16 := by
        unfold internal_strconv_formatBits_J3 internal_strconv_formatBits_J2 internal_strconv_formatBits_J7
        rw [ew]
        refine ok_bind (hdig v (by omega)) fun x _ => ok_g (by omega) (ok_g (by omega) ?_)
        rw [if_neg (by decide), if_neg (by decide)]
        refine ok_g (by simp [hl]) (ok_g (by omega) (ok_some ?_))
        simp only [strN, List.length_map, List.length_drop, List.length_set, hl, Int.toNat_natCast]
        omega
      obtain ⟨r, h1, h2⟩ := hJ
      rw [h1]
      exact ⟨_, rfl, h2⟩
  refine ok_bind hf fun r hr => ?_
  have hw : wr (16 - (r.length : Int)) = 16 - (r.length : Int) := wr_id (by omega)
  rw [hw]
  have hr2 : Ok (m_strings_Repeat [48] (16 - (r.length : Int))) fun q => q.length ≤ 16 := by
    unfold m_strings_Repeat
    refine ok_g ⟨by omega, by omega, by simp⟩ (ok_some ?_)
    rw [Lib.repeatL_length]
    simp only [List.length_cons, List.length_nil]
    omega
  exact ok_bind hr2 fun q hq => ok_g (by omega) (ok_some (by simp only [List.length_append]; omega))
theorem sum_end (h : Int) (hh : 0 ≤ h ∧ h ≤ 18446744073709551615) : Ok (token_sum_E1 h) fun r => gateref2_SumOf_E1 (mixH (mixH (mixH h))) = some r := by
  unfold token_sum_E1
  rw [if_pos (by decide), rng3 (body := fun (k : Nat) (s : Int) => token_sum_L2 k s) (b := mixH h) (c := mixH (mixH h)) (d := mixH (mixH (mixH h))) rfl rfl rfl]
  obtain ⟨r, h1, _⟩ := hex_ok (mixH (mixH (mixH h))) (u64_rng _)
  have e : token_sum_E2 (mixH (mixH (mixH h))) = m_gateref2_hex16 (mixH (mixH (mixH h))) := rfl
  rw [e, h1]
  unfold gateref2_SumOf_E1
  rw [h1]
  exact ⟨r, rfl, rfl⟩
theorem join3 (a b : Bs) : Lib.join [a, b, a] [0] = a ++ ([0] ++ (b ++ ([0] ++ a))) := by
  simp [Lib.join]
/-- both sums are equal -/
theorem sums_ok (s t : Bs) (hs : s.length ≤ 1000000) (ht : t.length ≤ 1000000) : Ok (m_token_sum s t) fun r => m_gateref2_SumOf s t = some r := by
  obtain ⟨H, hH⟩ : ∃ H, (s ++ ([0] ++ (t ++ ([0] ++ s)))).foldl hst 14695981039346656037 = H := ⟨_, rfl⟩
  have hr : 0 ≤ H ∧ H ≤ 18446744073709551615 := by rw [← hH]; exact hst_rng _ _ (by decide)
  have e1 : m_token_sum s t = token_sum_E1 H := by
    unfold m_token_sum
    rw [if_pos (by simp)]
    rw [sum_forL _ _ _ (by intro x hx; simp at hx; rcases hx with h1 | h1 | h1 | h1 | h1 <;> rw [h1] <;> first | omega | simp)]
    rw [← hH]
    simp only [List.foldl_append, List.foldl_cons, List.foldl_nil]
  have e2 : m_gateref2_SumOf s t = gateref2_SumOf_E1 (mixH (mixH (mixH H))) := by
    unfold m_gateref2_SumOf m_gateref2_hashed m_strings_Join
    rw [join3]
    have hlen : (s ++ ([0] ++ (t ++ ([0] ++ s)))).length ≤ 1000000000 := by simp; omega
    rw [if_pos ⟨by simp, hlen⟩]
    simp only [Option.bind_some]
    rw [if_pos hlen, fold_forL (body := fun (k : Nat) (x : UInt8) (s : Int) => gateref2_hashed_L1 k x s) (fun _ _ _ => rfl), hH]
    unfold gateref2_hashed_E1
    simp only [Option.bind_some]
    rw [if_pos (by decide), rng3 (body := fun (k : Nat) (s : Int) => gateref2_SumOf_L1 k s) (b := mixH H) (c := mixH (mixH H)) (d := mixH (mixH (mixH H))) rfl rfl rfl]
  rw [e1, e2]
  exact sum_end H hr
theorem encL_len (n : Int) : (encL n).length ≤ 4 := by
  have : (Utf8.encode n).size ≤ 4 := by
    unfold Utf8.encode
    simp only
    repeat' split
    all_goals simp [ByteArray.size]
  exact this
theorem changed_ok {k : Int} {s : S_gatemake_Stream} (h : SB k s) (hk : k ≤ 10000000) (t v : Bs) (ht : t.length ≤ 1000000) (hv : v.length ≤ 1000) : Ok (m_gatemake_Stream_Changed s t v) fun r => r.1.length ≤ 1000100 := by
  unfold m_gatemake_Stream_Changed
  refine ok_if (fun hc => ok_some (by simp only; omega)) (fun hc => ?_)
  have hc : t ≠ [] ∧ v ≠ [] := by simpa using hc
  have ht0 : 0 < t.length := by cases t with | nil => exact absurd rfl hc.1 | cons _ _ => simp
  have hv0 : 0 < v.length := by cases v with | nil => exact absurd rfl hc.2 | cons _ _ => simp
  refine ok_bind (next_ok h (by omega) _ (by omega)) fun r hr => ok_bind (next_ok hr.2 (by omega) _ (by omega)) fun r2 hr2 => ?_
  have h1 := hr.1.2.1 (by omega)
  have h2 := hr2.1.2.1 (by omega)
  have h0 := hr.1.1
  have hat : Ok (at? v r2.1) fun _ => True := by
    unfold at?
    rw [if_pos hr2.1.1, List.getElem?_eq_getElem (by omega)]
    exact ⟨_, rfl, trivial⟩
  have e1 : wr (r.1 + 1) = r.1 + 1 := wr_id (by omega)
  have hs1 : Ok (sub? t 0 r.1) fun q => (q.length : Int) = r.1 := by
    unfold sub?
    refine ok_g (by omega) (ok_some ?_)
    simp; omega
  have hs2 : Ok (sub? t (r.1 + 1) (t.length : Int)) fun q => (q.length : Int) = t.length - r.1 - 1 := by
    unfold sub?
    refine ok_g (by omega) (ok_some ?_)
    simp; omega
  have hs3 : Ok (sub? t r.1 (t.length : Int)) fun q => (q.length : Int) = t.length - r.1 := by
    unfold sub?
    refine ok_g (by omega) (ok_some ?_)
    simp; omega
  refine ok_bind hat fun x _ => ok_bind (next_ok hr2.2 (by omega) 3 (by omega)) fun r3 hr3 => ok_if (fun _ => ?_) (fun _ => ok_if (fun _ => ?_) (fun _ => ?_))
  · rw [e1]
    have hx := encL_len (IntKind.wrap .i32 (x.toNat : Int))
    refine ok_bind hs1 fun a ha => ok_g (by omega) (ok_bind hs2 fun b hb => ok_g (by simp only [List.length_append]; omega) (ok_some ?_))
    simp only [List.length_append]; omega
  · have hx := encL_len (IntKind.wrap .i32 (x.toNat : Int))
    refine ok_bind hs1 fun a ha => ok_g (by omega) (ok_bind hs3 fun b hb => ok_g (by simp only [List.length_append]; omega) (ok_some ?_))
    simp only [List.length_append]; omega
  · rw [e1]
    refine ok_bind hs1 fun a ha => ok_bind hs2 fun b hb => ok_g (by omega) (ok_some ?_)
    simp only [List.length_append]; omega
theorem bytesEncode_plain (L : List Int) : m_gatelaw2_BytesEncode L = some true := by
  refine ok_eq ?_
  have hJ3 : ∀ (l : List Int) (x : Bs × Int) (g : Bs × Int), l.length ≤ 1000 → gatelaw2_BytesEncode_J3 l x x g g.2 g.1 = some true := by
    intro l x g hl
    unfold gatelaw2_BytesEncode_J3 gatelaw2_BytesEncode_J4
    rw [encode_eq _ (by rw [strN_len]; omega), encoded_eq _ (by rw [strN_len]; omega), signed_eq]
    simp
  have hJ2 : ∀ (l : List Int) (q : Bs × S_gatemake_Stream) (v : Bs), l.length ≤ 1000 → q.1.length ≤ 1000 → v.length ≤ 1000100 → Ok (gatelaw2_BytesEncode_J2 l q v) (· = true) := by
    intro l q v hl hq hv
    unfold gatelaw2_BytesEncode_J2 m_token_Sum
    rw [decode_eq v (by omega), decoded_eq v (by omega), secP_eq q.1 (by omega), secR_eq q.1 (by omega)]
    simp only [Option.bind_some]
    by_cases h0 : secF q.1 = 0
    · obtain ⟨r, h1, h2⟩ := sums_ok q.1 (strN l) (by omega) (by rw [strN_len]; omega)
      rw [if_neg (by simp [h0]), h1, h2]
      simp only [Option.bind_some]
      rw [if_pos (by simp [h0])]
      have := hJ3 l (decF v) (r, 0) hl
      rw [h0, this]
      exact ⟨true, rfl, rfl⟩
    · rw [if_pos (by simpa using h0)]
      simp only [Option.bind_some]
      rw [if_neg (by simpa using h0)]
      have := hJ3 l (decF v) ([], secF q.1) hl
      rw [this]
      exact ⟨true, rfl, rfl⟩
  unfold m_gatelaw2_BytesEncode
  refine ok_bind (range_ok (k := 0) ⟨by simp, by simp⟩ (by omega) 0 12 (by omega)) fun r hr => ok_g (by omega) ?_
  refine ok_rng (fun j (s : List Int × Int × List Int) => SB (1 + (j : Int)) (S_gatemake_Stream.mk s.1 s.2.1) ∧ s.2.2.length ≤ j) _ _ _ ⟨hr.2.mono (by omega), by simp⟩ ?_ ?_
  · rintro j ⟨c4, c5, l6⟩ _ hj ⟨h1, h2⟩
    simp only at h1 h2 ⊢
    unfold gatelaw2_BytesEncode_L1
    refine ok_bind (range_ok h1 (by omega) 0 255 (by omega)) fun r2 hr2 => ok_g (by omega) (ok_some ?_)
    exact ⟨hr2.2.mono (by omega), by simp only [List.length_append, List.length_cons, List.length_nil]; omega⟩
  · rintro ⟨c4, c5, l6⟩ ⟨h1, h2⟩
    simp only at h1 h2 ⊢
    unfold gatelaw2_BytesEncode_E1
    have hl : l6.length ≤ 1000 := by omega
    have hel := encP_len (strN l6)
    rw [strN_len] at hel
    rw [encoded_eq _ (by rw [strN_len]; omega)]
    simp only [Option.bind_some]
    refine ok_bind (secret_ok h1 (by omega)) fun r3 hr3 => ok_bind (flip_ok hr3.2 (by omega) 2 (by omega)) fun r4 hr4 => ok_if (fun _ => ?_) (fun _ => ?_)
    · exact ok_bind (changed_ok hr4 (by omega) _ _ (by omega) (by simp)) fun r5 hr5 => hJ2 l6 r3 r5.1 hl hr3.1 hr5
    · exact hJ2 l6 r3 _ hl hr3.1 (by omega)
end Go.Proofs.YtiilgjigelbkcaaDoor
