/- Plain: strings of bits: what FormatInt and ParseInt give. -/
import Derived.Test.YtiilgjigelbkcaaDoorRa
import Derived.Test.YtiilgjigelbkcaaDoorYem
namespace Go.Proofs.YtiilgjigelbkcaaDoor
set_option linter.unusedVariables false
set_option maxRecDepth 20000
section
variable {σ ρ : Type}
theorem iter_in {body : σ → Option (σ ⊕ ρ)} {s s' : σ} (h : body s = some (.inl s')) : iter body s = iter body s' := by
  rw [iter_eq, h]; rfl
theorem iter_out {body : σ → Option (σ ⊕ ρ)} {s : σ} {r : ρ} (h : body s = some (.inr r)) : iter body s = some r := by
  rw [iter_eq, h]; rfl
theorem rng3 {body : Nat → σ → Option (σ ⊕ ρ)} {fin : σ → Option ρ} {a b c d : σ} (h0 : body 0 a = some (.inl b)) (h1 : body 1 b = some (.inl c)) (h2 : body 2 c = some (.inl d)) : rng body fin 3 0 a = fin d := by
  show (body 0 a).bind _ = _
  rw [h0]
  show (body 1 b).bind _ = _
  rw [h1]
  show (body 2 c).bind _ = _
  rw [h2]; rfl
theorem rng4 {body : Nat → σ → Option (σ ⊕ ρ)} {fin : σ → Option ρ} {a b c d e : σ} (h0 : body 0 a = some (.inl b)) (h1 : body 1 b = some (.inl c)) (h2 : body 2 c = some (.inl d)) (h3 : body 3 d = some (.inl e)) : rng body fin 4 0 a = fin e := by
  show (body 0 a).bind _ = _
  rw [h0]
  show (body 1 b).bind _ = _
  rw [h1]
  show (body 2 c).bind _ = _
  rw [h2]
  show (body 3 d).bind _ = _
  rw [h3]; rfl
end
/-- the signs of the last n bits of a number -/
def bitsN : Nat → Nat → Bs
  | 0, _ => []
  | n + 1, m => bitsN n (m / 2) ++ [if m % 2 = 1 then 49 else 48]
theorem bits_len : ∀ n m, (bitsN n m).length = n
  | 0, m => rfl
  | n + 1, m => by simp [bitsN, bits_len n]
theorem fmt2 (n : Int) (r : Bs) (hn : decide (n < 0) = false) (h : itN (fun (s : Int × Int × (List Int)) => internal_strconv_formatBits_L4 2 false false 1 s.1 s.2.1 s.2.2) 12 (IntKind.wrap .u64 n, 65, (List.replicate 65 0)) = some ([], r)) : m_strconv_FormatInt n 2 = some r := by
  unfold m_strconv_FormatInt m_internal_strconv_FormatInt m_internal_strconv_formatBits internal_strconv_formatBits_J1 m_internal_strconv_isPowerOfTwo
  rw [hn]
  have htz : m_bits_TrailingZeros (IntKind.wrap .u64 2) = some 1 := by decide +kernel
  have hp : decide (and_ .i64 2 (wr (2 - 1)) = 0) = true := by decide +kernel
  have hi := iter_some.2 ⟨12, h⟩
  simp only [hp, Option.bind_some, if_true, htz, hi, show decide ((2 : Int) = 10) = false from rfl, show decide ((2 : Int) < 2) = false from rfl, show decide ((36 : Int) < 2) = false from rfl, Bool.or_self, Bool.false_eq_true, if_false]
theorem fmt_at (c : UInt8) : m_strconv_FormatInt (wr (256 + (IntKind.wrap .i64 (c.toNat : Int)))) 2 = some (49 :: bitsN 8 c.toNat) := by
  refine fmt2 _ _ ?_ ?_
  · have := u8_all (fun c => !decide (wr (256 + (IntKind.wrap .i64 (c.toNat : Int))) < 0)) (by decide +kernel) c
    simpa using this
  · have := u8_all (fun c => decide (itN (fun (s : Int × Int × (List Int)) => internal_strconv_formatBits_L4 2 false false 1 s.1 s.2.1 s.2.2) 12 (IntKind.wrap .u64 (wr (256 + (IntKind.wrap .i64 (c.toNat : Int)))), 65, (List.replicate 65 0)) = some ([], 49 :: bitsN 8 c.toNat))) (by decide +kernel) c
    exact of_decide_eq_true this
theorem fmt_six (v : Nat) (h : v < 64) : m_strconv_FormatInt (wr (64 + (v : Int))) 2 = some (49 :: bitsN 6 v) := by
  refine fmt2 _ _ ?_ ?_
  · have : ∀ v, v < 64 → decide (wr (64 + ((v : Nat) : Int)) < 0) = false := by decide +kernel
    exact this v h
  · have : ∀ v, v < 64 → itN (fun (s : Int × Int × (List Int)) => internal_strconv_formatBits_L4 2 false false 1 s.1 s.2.1 s.2.2) 12 (IntKind.wrap .u64 (wr (64 + ((v : Nat) : Int))), 65, (List.replicate 65 0)) = some ([], 49 :: bitsN 6 v) := by decide +kernel
    exact this v h
theorem parse_six (v : Nat) (h : v < 64) : m_strconv_ParseInt (bitsN 6 v) 2 64 = some ((v : Int), ()) := by
  have : ∀ v, v < 64 → m_strconv_ParseInt (bitsN 6 v) 2 64 = some (((v : Nat) : Int), ()) := by decide +kernel
  exact this v h
theorem parse_eight (v : Nat) (h : v < 256) : m_strconv_ParseInt (bitsN 8 v) 2 64 = some ((v : Int), ()) := by
  have : ∀ v, v < 256 → m_strconv_ParseInt (bitsN 8 v) 2 64 = some (((v : Nat) : Int), ()) := by decide +kernel
  exact this v h
theorem s62 : ∀ a, a < 256 → bitsN 8 a = bitsN 6 (a / 4) ++ bitsN 2 (a % 4) := by decide +kernel
theorem s44 : ∀ a, a < 256 → bitsN 8 a = bitsN 4 (a / 16) ++ bitsN 4 (a % 16) := by decide +kernel
theorem s26 : ∀ a, a < 256 → bitsN 8 a = bitsN 2 (a / 64) ++ bitsN 6 (a % 64) := by decide +kernel
theorem j24 : ∀ a, a < 4 → ∀ b, b < 16 → bitsN 2 a ++ bitsN 4 b = bitsN 6 (a * 16 + b) := by decide +kernel
theorem j42 : ∀ a, a < 16 → ∀ b, b < 4 → bitsN 4 a ++ bitsN 2 b = bitsN 6 (a * 4 + b) := by decide +kernel
theorem j20 : ∀ a, a < 4 → bitsN 2 a ++ [48, 48, 48, 48] = bitsN 6 (a * 16) := by decide +kernel
theorem j40 : ∀ a, a < 16 → bitsN 4 a ++ [48, 48] = bitsN 6 (a * 4) := by decide +kernel
theorem t24 : ∀ a, a < 64 → bitsN 6 a = bitsN 2 (a / 16) ++ bitsN 4 (a % 16) := by decide +kernel
theorem t42 : ∀ a, a < 64 → bitsN 6 a = bitsN 4 (a / 4) ++ bitsN 2 (a % 4) := by decide +kernel
theorem i62 : ∀ a, a < 64 → ∀ b, b < 4 → bitsN 6 a ++ bitsN 2 b = bitsN 8 (a * 4 + b) := by decide +kernel
theorem i44 : ∀ a, a < 16 → ∀ b, b < 16 → bitsN 4 a ++ bitsN 4 b = bitsN 8 (a * 16 + b) := by decide +kernel
theorem i26 : ∀ a, a < 4 → ∀ b, b < 64 → bitsN 2 a ++ bitsN 6 b = bitsN 8 (a * 64 + b) := by decide +kernel
end Go.Proofs.YtiilgjigelbkcaaDoor
