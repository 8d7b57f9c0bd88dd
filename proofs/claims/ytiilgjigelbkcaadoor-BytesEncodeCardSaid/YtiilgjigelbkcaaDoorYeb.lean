/- Plain: bytes written in an alphabet of 64 signs. -/
import Derived.Test.YtiilgjigelbkcaaDoorYea
namespace Go.Proofs.YtiilgjigelbkcaaDoor
set_option linter.unusedVariables false
set_option maxRecDepth 20000
/-- the alphabet -/
abbrev abc : Bs := [65, 66, 67, 68, 69, 70, 71, 72, 73, 74, 75, 76, 77, 78, 79, 80, 81, 82, 83, 84, 85, 86, 87, 88, 89, 90, 97, 98, 99, 100, 101, 102, 103, 104, 105, 106, 107, 108, 109, 110, 111, 112, 113, 114, 115, 116, 117, 118, 119, 120, 121, 122, 48, 49, 50, 51, 52, 53, 54, 55, 56, 57, 45, 95]
def sgn (v : Nat) : UInt8 := abc.getD v 0
theorem at_abc (v : Nat) (h : v < 64) : at? abc (v : Int) = some (sgn v) := by
  rw [at_nat]
  have h1 : v < abc.length := h
  rw [List.getElem?_eq_getElem h1]
  unfold sgn
  rw [List.getD_eq_getElem?_getD, List.getElem?_eq_getElem h1]; rfl
theorem sub_abc (v : Nat) (h : v < 64) : sub? abc (v : Int) (wr ((v : Int) + 1)) = some [sgn v] := by
  have : ∀ v, v < 64 → sub? abc ((v : Nat) : Int) (wr (((v : Nat) : Int) + 1)) = some [sgn v] := by decide +kernel
  exact this v h
/-- numbers of machines -/
theorem i64w {n : Nat} (h : n ≤ 1000000000000) : IntKind.wrap .i64 (n : Int) = (n : Int) := IntWalk.i64_in _ (by omega)
theorem shl_eq (x k : Nat) (hk : k ≤ 16) (h : x ≤ 1000000) : shl_ .i64 (x : Int) (k : Int) = ((x * 2 ^ k : Nat) : Int) := by
  show IntKind.wrap .i64 ((x : Int) * 2 ^ (min (k : Int).toNat IntKind.i64.bits)) = _
  have e1 : min (k : Int).toNat IntKind.i64.bits = k := by
    have : IntKind.i64.bits = 64 := rfl
    rw [this]; omega
  rw [e1]
  have e2 : ((x : Int) * 2 ^ k) = ((x * 2 ^ k : Nat) : Int) := by push_cast; rfl
  rw [e2]
  refine i64w ?_
  have h1 : 2 ^ k ≤ 2 ^ 16 := Nat.pow_le_pow_right (by decide) hk
  have h2 := Nat.mul_le_mul h h1
  omega
theorem shr_eq (x k : Nat) (hk : k ≤ 24) : shr_ .i64 (x : Int) (k : Int) = ((x / 2 ^ k : Nat) : Int) := by
  show (x : Int).fdiv (2 ^ (min (k : Int).toNat IntKind.i64.bits)) = _
  have e1 : min (k : Int).toNat IntKind.i64.bits = k := by
    have : IntKind.i64.bits = 64 := rfl
    rw [this]; omega
  rw [e1, Int.fdiv_eq_ediv_of_nonneg _ (Int.le_of_lt (Int.pow_pos (by decide)))]
  push_cast; rfl
theorem or_eq (a b k : Nat) (hb : b < 2 ^ k) (h : a * 2 ^ k + b ≤ 1000000000000) : or_ .i64 ((a * 2 ^ k : Nat) : Int) (b : Int) = ((a * 2 ^ k + b : Nat) : Int) := by
  show IntKind.wrap .i64 (((BitVec.ofInt IntKind.i64.bits ((a * 2 ^ k : Nat) : Int) ||| BitVec.ofInt IntKind.i64.bits (b : Int)).toNat : Nat) : Int) = _
  have hbits : IntKind.i64.bits = 64 := rfl
  rw [hbits, BitVec.ofInt_natCast, BitVec.ofInt_natCast, BitVec.toNat_or, BitVec.toNat_ofNat, BitVec.toNat_ofNat, Nat.mod_eq_of_lt (by omega), Nat.mod_eq_of_lt (by omega), Nat.mul_comm a, ← Nat.two_pow_add_eq_or_of_lt hb, Nat.mul_comm]
  exact i64w h
theorem and_eq (x : Nat) (h : x ≤ 1000000000000) : and_ .i64 (x : Int) 63 = ((x % 64 : Nat) : Int) := by
  show IntKind.wrap .i64 (((BitVec.ofInt IntKind.i64.bits (x : Int) &&& BitVec.ofInt IntKind.i64.bits ((63 : Nat) : Int)).toNat : Nat) : Int) = _
  have hbits : IntKind.i64.bits = 64 := rfl
  rw [hbits, BitVec.ofInt_natCast, BitVec.ofInt_natCast, BitVec.toNat_and, BitVec.toNat_ofNat, BitVec.toNat_ofNat, Nat.mod_eq_of_lt (by omega), Nat.mod_eq_of_lt (by omega), show 63 = 2 ^ 6 - 1 from rfl, Nat.and_two_pow_sub_one_eq_mod]
  exact i64w (by omega)
theorem strN_nums' (l : Bs) : strN (numsB l) = l := by
  unfold strN numsB
  rw [List.map_map]
  conv => rhs; rw [← List.map_id l]
  refine List.map_congr_left fun c _ => ?_
  simp
/-- how bytes are written -/
def encP : Bs → Bs
  | [] => []
  | [a] => [sgn (a.toNat / 4), sgn (a.toNat % 4 * 16)]
  | [a, b] => [sgn (a.toNat / 4), sgn (a.toNat % 4 * 16 + b.toNat / 16), sgn (b.toNat % 16 * 4)]
  | a :: b :: c :: r => sgn (a.toNat / 4) :: sgn (a.toNat % 4 * 16 + b.toNat / 16) :: sgn (b.toNat % 16 * 4 + c.toNat / 64) :: sgn (c.toNat % 64) :: encP r
theorem encP_len : ∀ s, (encP s).length ≤ 2 * s.length
  | [] => by simp [encP]
  | [a] => by simp [encP]
  | [a, b] => by simp [encP]
  | a :: b :: c :: r => by have := encP_len r; simp only [encP, List.length_cons]; omega
theorem enc_byte (s : Bs) (k x : Nat) (c : UInt8) (hx : x < 65536) (h : s[k]? = some c) (hk : k < 3) : token_Encode_L3 s k (x : Int) = some (.inl ((x * 256 + c.toNat : Nat) : Int)) := by
  have h1 := lt_some h
  have hc := c.toNat_lt
  unfold token_Encode_L3 token_Encode_J5
  rw [if_pos (by simp; omega), h]
  simp only [Option.bind_some]
  rw [i64w (by omega), show ((8 : Int)) = ((8 : Nat) : Int) from rfl, shl_eq x 8 (by omega) (by omega), or_eq x c.toNat 8 (by omega) (by omega)]
theorem enc_none (s : Bs) (k x : Nat) (hx : x < 65536) (h : s.length ≤ k) : token_Encode_L3 s k (x : Int) = some (.inl ((x * 256 : Nat) : Int)) := by
  unfold token_Encode_L3 token_Encode_J5
  rw [if_neg (by simp; omega), show ((8 : Int)) = ((8 : Nat) : Int) from rfl, shl_eq x 8 (by omega) (by omega)]
theorem enc_sign (x k : Nat) (l : List Int) (hx : x < 16777216) (hk : k ≤ 3) (hl : l.length + 1 ≤ 1000000000) : token_Encode_L4 (x : Int) k l = some (.inl (l ++ numsB [sgn (x / 2 ^ (18 - 6 * k) % 64)])) := by
  unfold token_Encode_L4
  have e1 : wr (18 - wr (6 * (k : Int))) = ((18 - 6 * k : Nat) : Int) := by
    rw [wr_id (n := 6 * (k : Int)) (by omega), wr_id (by omega)]; omega
  have h2 : x / 2 ^ (18 - 6 * k) ≤ x := Nat.div_le_self _ _
  rw [e1, if_pos (by omega), shr_eq x _ (by omega), and_eq _ (by omega), at_abc _ (Nat.mod_lt _ (by decide))]
  simp only [Option.bind_some]
  rw [if_pos hl]
  rfl
/-- what the signs of a number of three bytes are -/
def four (x : Nat) : Nat → Bs := fun n => (List.range n).map fun k => sgn (x / 2 ^ (18 - 6 * k) % 64)
theorem enc_E (s : Bs) (l : List Int) (x n : Nat) (hn : n = min 3 s.length + 1) (hx : x < 16777216) (hl : l.length + 4 ≤ 1000000000) :
    token_Encode_E3 s l (x : Int) = some (.inl (s.drop (min 3 s.length), l ++ numsB (four x n))) := by
  unfold token_Encode_E3
  have e1 : wr (min 3 (s.length : Int) + 1) = (n : Int) := by rw [wr_id (by omega)]; omega
  rw [e1, if_pos (by omega), Int.toNat_natCast]
  have hE : ∀ q : List Int, token_Encode_E4 s q = some (.inl (s.drop (min 3 s.length), q)) := by
    intro q
    unfold token_Encode_E4 sub?
    rw [if_pos (by omega)]
    simp only [Option.bind_some]
    congr 3
    rw [List.take_of_length_le (by simp only [List.length_drop]; omega)]
    congr 1; omega
  have key : ∀ m k (q : List Int), k + m ≤ 4 → q.length + m ≤ 1000000000 → rng (fun (k : Nat) (s : (List Int)) => token_Encode_L4 (x : Int) k s) (fun (q : (List Int)) => token_Encode_E4 s q) m k q = some (.inl (s.drop (min 3 s.length), q ++ numsB ((List.range' k m).map fun k => sgn (x / 2 ^ (18 - 6 * k) % 64)))) := by
    intro m
    induction m with
    | zero => intro k q _ _; show token_Encode_E4 s q = _; rw [hE]; simp [numsB]
    | succ m ih =>
      intro k q hk hq
      show (token_Encode_L4 (x : Int) k q).bind _ = _
      rw [enc_sign x k q hx (by omega) (by omega)]
      simp only [Option.bind_some, after]
      rw [ih (k + 1) _ (by omega) (by simp [numsB]; omega)]
      simp only [numsB, List.range'_succ, List.map_cons, List.append_assoc, List.map_nil, List.cons_append, List.nil_append]
  rw [key n 0 l (by omega) (by omega)]
  unfold four
  rw [List.range_eq_range']
theorem enc_three (a b c : UInt8) (r : Bs) (l : List Int) (hl : l.length + 4 ≤ 1000000000) : token_Encode_L2 (a :: b :: c :: r) l = some (.inl (r, l ++ numsB [sgn (a.toNat / 4), sgn (a.toNat % 4 * 16 + b.toNat / 16), sgn (b.toNat % 16 * 4 + c.toNat / 64), sgn (c.toNat % 64)])) := by
  have ha := a.toNat_lt
  have hb := b.toNat_lt
  have hc := c.toNat_lt
  unfold token_Encode_L2
  rw [if_pos (by simp; omega), if_pos (by decide)]
  show rng _ _ 3 0 ((0 : Nat) : Int) = _
  rw [rng3 (body := fun (k : Nat) (s : Int) => token_Encode_L3 (a :: b :: c :: r) k s) (enc_byte _ 0 0 a (by omega) rfl (by omega)) (enc_byte _ 1 _ b (by omega) rfl (by omega)) (enc_byte _ 2 _ c (by omega) rfl (by omega))]
  have hm : min 3 (a :: b :: c :: r).length = 3 := by simp only [List.length_cons]; omega
  rw [enc_E _ l _ 4 (by omega) (by omega) hl, hm]
  have e : four (((0 * 256 + a.toNat) * 256 + b.toNat) * 256 + c.toNat) 4 = [sgn (a.toNat / 4), sgn (a.toNat % 4 * 16 + b.toNat / 16), sgn (b.toNat % 16 * 4 + c.toNat / 64), sgn (c.toNat % 64)] := by
    show [sgn (_ / 262144 % 64), sgn (_ / 4096 % 64), sgn (_ / 64 % 64), sgn (_ / 1 % 64)] = _
    congr 1
    · congr 1; omega
    congr 1
    · congr 1; omega
    congr 1
    · congr 1; omega
    congr 1
    congr 1; omega
  rw [e]; rfl
theorem enc_two (a b : UInt8) (l : List Int) (hl : l.length + 4 ≤ 1000000000) : token_Encode_L2 [a, b] l = some (.inl ([], l ++ numsB [sgn (a.toNat / 4), sgn (a.toNat % 4 * 16 + b.toNat / 16), sgn (b.toNat % 16 * 4)])) := by
  have ha := a.toNat_lt
  have hb := b.toNat_lt
  unfold token_Encode_L2
  rw [if_pos (by simp), if_pos (by decide)]
  show rng _ _ 3 0 ((0 : Nat) : Int) = _
  rw [rng3 (body := fun (k : Nat) (s : Int) => token_Encode_L3 [a, b] k s) (enc_byte _ 0 0 a (by omega) rfl (by omega)) (enc_byte _ 1 _ b (by omega) rfl (by omega)) (enc_none _ 2 _ (by omega) (by simp))]
  rw [enc_E _ l _ 3 (by simp) (by omega) hl]
  have e : four (((0 * 256 + a.toNat) * 256 + b.toNat) * 256) 3 = [sgn (a.toNat / 4), sgn (a.toNat % 4 * 16 + b.toNat / 16), sgn (b.toNat % 16 * 4)] := by
    show [sgn (_ / 262144 % 64), sgn (_ / 4096 % 64), sgn (_ / 64 % 64)] = _
    congr 1
    · congr 1; omega
    congr 1
    · congr 1; omega
    congr 1
    congr 1; omega
  rw [e, List.drop_eq_nil_of_le (by simp)]
theorem enc_one (a : UInt8) (l : List Int) (hl : l.length + 4 ≤ 1000000000) : token_Encode_L2 [a] l = some (.inl ([], l ++ numsB [sgn (a.toNat / 4), sgn (a.toNat % 4 * 16)])) := by
  have ha := a.toNat_lt
  unfold token_Encode_L2
  rw [if_pos (by simp), if_pos (by decide)]
  show rng _ _ 3 0 ((0 : Nat) : Int) = _
  rw [rng3 (body := fun (k : Nat) (s : Int) => token_Encode_L3 [a] k s) (enc_byte _ 0 0 a (by omega) rfl (by omega)) (enc_none _ 1 _ (by omega) (by simp)) (enc_none _ 2 _ (by omega) (by simp))]
  rw [enc_E _ l _ 2 (by simp) (by omega) hl]
  have e : four (((0 * 256 + a.toNat) * 256) * 256) 2 = [sgn (a.toNat / 4), sgn (a.toNat % 4 * 16)] := by
    show [sgn (_ / 262144 % 64), sgn (_ / 4096 % 64)] = _
    congr 1
    · congr 1; omega
    congr 1
    congr 1; omega
  rw [e, List.drop_eq_nil_of_le (by simp)]
theorem enc_nil (l : List Int) : token_Encode_L2 [] l = some (.inr (strN l)) := by
  unfold token_Encode_L2 token_Encode_J1
  rw [if_neg (by simp)]; rfl
theorem encI : ∀ (s : Bs) (l : List Int), l.length + 2 * s.length + 4 ≤ 1000000000 → iter (fun (s : Bs × (List Int)) => token_Encode_L2 s.1 s.2) (s, l) = some (strN (l ++ numsB (encP s)))
  | [], l, h => by rw [iter_out (body := fun (s : Bs × (List Int)) => token_Encode_L2 s.1 s.2) (s := ([], _)) (enc_nil l)]; simp [encP, numsB]
  | [a], l, h => by rw [iter_in (body := fun (s : Bs × (List Int)) => token_Encode_L2 s.1 s.2) (s := ([a], l)) (enc_one a l (by omega)), iter_out (body := fun (s : Bs × (List Int)) => token_Encode_L2 s.1 s.2) (s := ([], _)) (enc_nil _)]; simp [encP, numsB]
  | [a, b], l, h => by rw [iter_in (body := fun (s : Bs × (List Int)) => token_Encode_L2 s.1 s.2) (s := ([a, b], l)) (enc_two a b l (by omega)), iter_out (body := fun (s : Bs × (List Int)) => token_Encode_L2 s.1 s.2) (s := ([], _)) (enc_nil _)]; simp [encP, numsB]
  | a :: b :: c :: r, l, h => by
    simp only [List.length_cons] at h
    rw [iter_in (body := fun (s : Bs × (List Int)) => token_Encode_L2 s.1 s.2) (s := (a :: b :: c :: r, l)) (enc_three a b c r l (by omega)), encI r _ (by simp [numsB]; omega)]
    simp [encP, numsB]
theorem encode_eq (s : Bs) (h : s.length ≤ 100000000) : m_token_Encode s = some (encP s) := by
  unfold m_token_Encode
  rw [encI s [] (by simp only [List.length_nil]; omega), List.nil_append, strN_nums']
/-- the reference: bits, six at a time -/
theorem encd_step (q : Bs) (out : Bs) (v : Nat) (hv : v < 64) (hq : q ≠ []) (hlen : q.length ≤ 1000000000) (hb : q.take 6 ++ ([48, 48, 48, 48, 48, 48] : Bs).drop (min 6 q.length) = bitsN 6 v) (ho : out.length + 1 ≤ 1000000000) :
    gateref2_Encoded_L3 q out = some (.inl (q.drop 6, out ++ [sgn v])) := by
  unfold gateref2_Encoded_L3
  rw [if_pos (by simpa using hq)]
  have hm : min 6 (q.length : Int) = ((min 6 q.length : Nat) : Int) := by omega
  rw [hm, sub_take q _ (by omega)]
  have e2 : ∀ z : Int, z = 6 → sub? ([48, 48, 48, 48, 48, 48] : Bs) ((min 6 q.length : Nat) : Int) z = some (([48, 48, 48, 48, 48, 48] : Bs).drop (min 6 q.length)) := by
    intro z hz
    subst hz
    unfold sub?
    rw [if_pos (by simp; omega), List.take_of_length_le (by simp)]
    simp only [Int.toNat_natCast]
  have e3 : sub? q ((min 6 q.length : Nat) : Int) (q.length : Int) = some (q.drop 6) := by
    unfold sub?
    rw [if_pos (by omega), List.take_of_length_le (by simp)]
    simp only [Int.toNat_natCast]
    by_cases h6 : q.length ≤ 6
    · rw [List.drop_eq_nil_of_le (show q.length ≤ 6 from h6), List.drop_eq_nil_of_le (by omega)]
    · rw [show min 6 q.length = 6 by omega]
  have e4 : q.take (min 6 q.length) = q.take 6 := by
    by_cases h6 : q.length ≤ 6
    · rw [List.take_of_length_le (by omega), List.take_of_length_le h6]
    · rw [show min 6 q.length = 6 by omega]
  rw [e4]
  simp only [Option.bind_some]
  rw [e2]
  rotate_left
  · rfl
  simp only [Option.bind_some]
  rw [if_pos (by simp; omega), hb, parse_six v hv]
  simp only [Option.bind_some]
  rw [sub_abc v hv]
  simp only [Option.bind_some]
  rw [if_pos (by simpa using ho), e3]
  rfl
theorem encd_six (v : Nat) (r out : Bs) (hv : v < 64) (hlen : r.length + 6 ≤ 1000000000) (ho : out.length + 1 ≤ 1000000000) : gateref2_Encoded_L3 (bitsN 6 v ++ r) out = some (.inl (r, out ++ [sgn v])) := by
  have hl := bits_len 6 v
  rw [encd_step (bitsN 6 v ++ r) out v hv (by intro h; rw [List.append_eq_nil_iff] at h; rw [h.1] at hl; simp at hl) (by simp [hl]; omega) (by
    rw [show min 6 (bitsN 6 v ++ r).length = 6 by simp [hl], List.take_append_of_le_length (by omega), List.take_of_length_le (by omega)]; simp) ho]
  rw [List.drop_append_of_le_length (by omega), List.drop_eq_nil_of_le (by omega)]; rfl
def allBits (s : Bs) : Bs := s.flatMap fun c => bitsN 8 c.toNat
theorem allBits_len (s : Bs) : (allBits s).length = 8 * s.length := by
  induction s with
  | nil => rfl
  | cons c s ih => unfold allBits at ih ⊢; rw [List.flatMap_cons, List.length_append, bits_len, ih, List.length_cons]; omega
theorem encdI : ∀ (s out : Bs), out.length + 8 * s.length + 10 ≤ 1000000000 → iter (fun (s : Bs × Bs) => gateref2_Encoded_L3 s.1 s.2) (allBits s, out) = some (out ++ encP s)
  | [], out, h => by
    refine iter_out (s := (allBits [], out)) ?_
    show gateref2_Encoded_L3 [] out = _
    unfold gateref2_Encoded_L3 gateref2_Encoded_J2
    rw [if_neg (by simp)]
    simp [encP]
  | [a], out, h => by
    have ha := a.toNat_lt
    simp only [List.length_cons, List.length_nil] at h
    have e : allBits [a] = bitsN 6 (a.toNat / 4) ++ bitsN 2 (a.toNat % 4) := by
      unfold allBits
      simp only [List.flatMap_cons, List.flatMap_nil, List.append_nil]
      exact s62 _ (by omega)
    rw [e, iter_in (encd_six _ _ out (by omega) (by simp [bits_len]) (by omega)), iter_in (encd_step _ _ (a.toNat % 4 * 16) (by omega) (fun h => by have := bits_len 2 (a.toNat % 4); rw [show bitsN 2 (a.toNat % 4) = [] from h] at this; cases this) (by simp [bits_len]) (by
      rw [List.take_of_length_le (by simp [bits_len]), bits_len]; exact j20 _ (by omega)) (by simp; omega)), List.drop_eq_nil_of_le (by simp [bits_len])]
    rw [iter_out (s := (([] : Bs), _)) (by
      show gateref2_Encoded_L3 [] _ = _
      unfold gateref2_Encoded_L3 gateref2_Encoded_J2
      rw [if_neg (by simp)]; rfl)]
    simp [encP]
  | [a, b], out, h => by
    have ha := a.toNat_lt
    have hb := b.toNat_lt
    simp only [List.length_cons, List.length_nil] at h
    have e : allBits [a, b] = bitsN 6 (a.toNat / 4) ++ (bitsN 6 (a.toNat % 4 * 16 + b.toNat / 16) ++ bitsN 4 (b.toNat % 16)) := by
      unfold allBits
      simp only [List.flatMap_cons, List.flatMap_nil, List.append_nil]
      rw [s62 a.toNat (by omega), s44 b.toNat (by omega), ← j24 (a.toNat % 4) (by omega) (b.toNat / 16) (by omega)]
      simp only [List.append_assoc]
    rw [e, iter_in (encd_six _ _ out (by omega) (by simp [bits_len]) (by omega)), iter_in (encd_six _ _ _ (by omega) (by simp [bits_len]) (by simp; omega)), iter_in (encd_step _ _ (b.toNat % 16 * 4) (by omega) (fun h => by have := bits_len 4 (b.toNat % 16); rw [show bitsN 4 (b.toNat % 16) = [] from h] at this; cases this) (by simp [bits_len]) (by
      rw [List.take_of_length_le (by simp [bits_len]), bits_len]; exact j40 _ (by omega)) (by simp; omega)), List.drop_eq_nil_of_le (by simp [bits_len])]
    rw [iter_out (s := (([] : Bs), _)) (by
      show gateref2_Encoded_L3 [] _ = _
      unfold gateref2_Encoded_L3 gateref2_Encoded_J2
      rw [if_neg (by simp)]; rfl)]
    simp [encP]
  | a :: b :: c :: r, out, h => by
    have ha := a.toNat_lt
    have hb := b.toNat_lt
    have hc := c.toNat_lt
    have hr := allBits_len r
    simp only [List.length_cons] at h
    have e : allBits (a :: b :: c :: r) = bitsN 6 (a.toNat / 4) ++ (bitsN 6 (a.toNat % 4 * 16 + b.toNat / 16) ++ (bitsN 6 (b.toNat % 16 * 4 + c.toNat / 64) ++ (bitsN 6 (c.toNat % 64) ++ allBits r))) := by
      unfold allBits
      simp only [List.flatMap_cons]
      rw [s62 a.toNat (by omega), s44 b.toNat (by omega), s26 c.toNat (by omega), ← j24 (a.toNat % 4) (by omega) (b.toNat / 16) (by omega), ← j42 (b.toNat % 16) (by omega) (c.toNat / 64) (by omega)]
      simp only [List.append_assoc]
    rw [e, iter_in (encd_six _ _ out (by omega) (by simp [bits_len]; omega) (by omega)), iter_in (encd_six _ _ _ (by omega) (by simp [bits_len]; omega) (by simp; omega)), iter_in (encd_six _ _ _ (by omega) (by simp [bits_len]; omega) (by simp; omega)), iter_in (encd_six _ _ _ (by omega) (by omega) (by simp; omega)), encdI r _ (by simp; omega)]
    simp [encP]
theorem encoded_eq (s : Bs) (h : s.length ≤ 100000000) : m_gateref2_Encoded s = some (encP s) := by
  unfold m_gateref2_Encoded
  rw [if_pos (by omega)]
  have key : ∀ (l : Bs) (k : Nat) (bs : Bs), bs.length + 8 * l.length ≤ 1000000000 → forL (fun (k : Nat) (x : UInt8) (s : Bs) => gateref2_Encoded_L1 k x s) (fun (s : Bs) => gateref2_Encoded_E1 s) k l bs = gateref2_Encoded_E1 (bs ++ allBits l) := by
    intro l
    induction l with
    | nil => intro k bs _; show gateref2_Encoded_E1 bs = _; simp [allBits]
    | cons c l ih =>
      intro k bs hl
      simp only [List.length_cons] at hl
      have e1 : sub? (49 :: bitsN 8 c.toNat) 1 ((49 :: bitsN 8 c.toNat).length : Int) = some (bitsN 8 c.toNat) := by
        unfold sub?
        rw [if_pos (by simp [bits_len]), List.take_of_length_le (by simp)]
        rfl
      have e2 : gateref2_Encoded_L1 k c bs = some (.inl (bs ++ bitsN 8 c.toNat)) := by
        unfold gateref2_Encoded_L1
        rw [fmt_at c]
        simp only [Option.bind_some, e1]
        rw [if_pos (by rw [bits_len]; omega)]
      show (gateref2_Encoded_L1 k c bs).bind _ = _
      rw [e2]
      simp only [Option.bind_some, after]
      rw [ih (k + 1) _ (by simp only [List.length_append, bits_len]; omega)]
      congr 1
      unfold allBits
      rw [List.flatMap_cons, List.append_assoc]
  rw [key s 0 [] (by simp only [List.length_nil]; omega), List.nil_append]
  unfold gateref2_Encoded_E1
  rw [encdI s [] (by simp only [List.length_nil]; omega)]; rfl
end Go.Proofs.YtiilgjigelbkcaaDoor
