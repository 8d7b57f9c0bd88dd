/- Plain: what is written in an alphabet of 64 signs is read. -/
import Derived.Test.YtiilgjigelbkcaaDoorYeb
namespace Go.Proofs.YtiilgjigelbkcaaDoor
set_option linter.unusedVariables false
set_option maxRecDepth 20000

/-- a sign's number -/
def ix (c : UInt8) : Int := Lib.indexByte abc c
def iv (c : UInt8) : Nat := (ix c).toNat
theorem ix_rng (c : UInt8) : ix c < 0 ∨ (ix c = (iv c : Int) ∧ iv c < 64) := by
  have := u8_all (fun c => decide (ix c < 0 ∨ (ix c = (iv c : Int) ∧ iv c < 64))) (by decide +kernel) c
  exact of_decide_eq_true this
def gdB (c : UInt8) : Bool := decide (0 ≤ ix c)
theorem gd_t {c : UInt8} (h : gdB c = true) : ix c = (iv c : Int) ∧ iv c < 64 := by
  unfold gdB at h
  have h := of_decide_eq_true h
  rcases ix_rng c with h1 | h1
  · omega
  · exact h1
theorem gd_f {c : UInt8} (h : gdB c = false) : ix c < 0 := by
  unfold gdB at h
  have h := of_decide_eq_false h
  omega
theorem index_eq (c : UInt8) : m_strings_IndexByte abc (c.toNat : Int) = some (ix c) := by
  unfold m_strings_IndexByte ix
  simp
/-- how signs are read -/
def decP : List Nat → List Nat
  | [] => []
  | [a] => []
  | [a, b] => [a * 4 + b / 16]
  | [a, b, c] => [a * 4 + b / 16, b % 16 * 16 + c / 4]
  | a :: b :: c :: d :: r => (a * 4 + b / 16) :: (b % 16 * 16 + c / 4) :: (c % 4 * 64 + d) :: decP r
theorem decP_len : ∀ s, (decP s).length ≤ s.length
  | [] => by simp [decP]
  | [a] => by simp [decP]
  | [a, b] => by simp [decP]
  | [a, b, c] => by simp [decP]
  | a :: b :: c :: d :: r => by have := decP_len r; simp only [decP, List.length_cons]; omega
def nI (l : List Nat) : List Int := l.map fun n : Nat => (n : Int)
theorem u8_id {n : Nat} (h : n < 256) : IntKind.wrap .u8 (n : Int) = (n : Int) := by
  unfold IntKind.wrap
  simp [IntKind.bits, IntKind.signed]
  omega
theorem dec_sign (s : Bs) (k x : Nat) (c : UInt8) (hx : x < 262144) (h : s[k]? = some c) (hk : k < 4) (hg : gdB c = true) : token_Decode_L3 s k (x : Int) = some (.inl ((x * 64 + iv c : Nat) : Int)) := by
  have h1 := lt_some h
  obtain ⟨h2, h3⟩ := gd_t hg
  unfold token_Decode_L3 token_Decode_J5
  rw [if_pos (by simp; omega), h]
  simp only [Option.bind_some]
  rw [index_eq]
  simp only [Option.bind_some]
  rw [if_neg (by simp; omega), h2, show ((6 : Int)) = ((6 : Nat) : Int) from rfl, shl_eq x 6 (by omega) (by omega), or_eq x (iv c) 6 (by omega) (by omega)]
theorem dec_bad (s : Bs) (k : Nat) (x : Int) (c : UInt8) (h : s[k]? = some c) (hk : k < 4) (hg : gdB c = false) : token_Decode_L3 s k x = some (.inr (.inr ([], 9))) := by
  have h1 := lt_some h
  have h2 := gd_f hg
  unfold token_Decode_L3 token_Decode_J5
  rw [if_pos (by simp; omega), h]
  simp only [Option.bind_some]
  rw [index_eq]
  simp only [Option.bind_some]
  rw [if_pos (by simp; omega)]
theorem dec_none (s : Bs) (k x : Nat) (hx : x < 262144) (h : s.length ≤ k) : token_Decode_L3 s k (x : Int) = some (.inl ((x * 64 : Nat) : Int)) := by
  unfold token_Decode_L3 token_Decode_J5
  rw [if_neg (by simp; omega), show ((6 : Int)) = ((6 : Nat) : Int) from rfl, shl_eq x 6 (by omega) (by omega)]
theorem dec_byte (x k : Nat) (l : List Int) (hx : x < 16777216) (hk : k ≤ 2) (hl : l.length + 1 ≤ 1000000000) : token_Decode_L4 (x : Int) k l = some (.inl (l ++ nI [x / 2 ^ (16 - 8 * k) % 256])) := by
  unfold token_Decode_L4
  have e1 : wr (16 - wr (8 * (k : Int))) = ((16 - 8 * k : Nat) : Int) := by
    rw [wr_id (n := 8 * (k : Int)) (by omega), wr_id (by omega)]; omega
  rw [e1, if_pos (by omega), if_pos hl, shr_eq x _ (by omega)]
  have e2 : IntKind.wrap .u8 ((x / 2 ^ (16 - 8 * k) : Nat) : Int) = ((x / 2 ^ (16 - 8 * k) % 256 : Nat) : Int) := by
    unfold IntKind.wrap
    simp [IntKind.bits, IntKind.signed]
  rw [e2]; rfl
def three (x : Nat) : Nat → List Nat := fun n => (List.range n).map fun k => x / 2 ^ (16 - 8 * k) % 256
theorem dec_E (s : Bs) (l : List Int) (x n : Nat) (hn : n + 1 = min 4 s.length) (hx : x < 16777216) (hl : l.length + 4 ≤ 1000000000) :
    token_Decode_E3 s l (x : Int) = some (.inl (s.drop (min 4 s.length), l ++ nI (three x n))) := by
  unfold token_Decode_E3
  have e1 : wr (min 4 (s.length : Int) - 1) = (n : Int) := by rw [wr_id (by omega)]; omega
  rw [e1, if_pos (by omega), Int.toNat_natCast]
  have hE : ∀ q : List Int, token_Decode_E4 s q = some (.inl (s.drop (min 4 s.length), q)) := by
    intro q
    unfold token_Decode_E4 sub?
    rw [if_pos (by omega)]
    simp only [Option.bind_some]
    congr 3
    rw [List.take_of_length_le (by simp only [List.length_drop]; omega)]
    congr 1; omega
  have key : ∀ m k (q : List Int), k + m ≤ 3 → q.length + m ≤ 1000000000 → rng (fun (k : Nat) (s : (List Int)) => token_Decode_L4 (x : Int) k s) (fun (q : (List Int)) => token_Decode_E4 s q) m k q = some (.inl (s.drop (min 4 s.length), q ++ nI ((List.range' k m).map fun k => x / 2 ^ (16 - 8 * k) % 256))) := by
    intro m
    induction m with
    | zero => intro k q _ _; show token_Decode_E4 s q = _; rw [hE]; simp [nI]
    | succ m ih =>
      intro k q hk hq
      show (token_Decode_L4 (x : Int) k q).bind _ = _
      rw [dec_byte x k q hx (by omega) (by omega)]
      simp only [Option.bind_some, after]
      rw [ih (k + 1) _ (by omega) (by simp [nI]; omega)]
      simp only [nI, List.range'_succ, List.map_cons, List.append_assoc, List.map_nil, List.cons_append, List.nil_append]
  rw [key n 0 l (by omega) (by omega)]
  unfold three
  rw [List.range_eq_range']
theorem rng4b {σ ρ : Type} {body : Nat → σ → Option (σ ⊕ ρ)} {fin : σ → Option ρ} {a : σ} {r : ρ} (h : body 0 a = some (.inr r) ∨ ∃ b, body 0 a = some (.inl b) ∧ (body 1 b = some (.inr r) ∨ ∃ c, body 1 b = some (.inl c) ∧ (body 2 c = some (.inr r) ∨ ∃ d, body 2 c = some (.inl d) ∧ body 3 d = some (.inr r)))) : rng body fin 4 0 a = some r := by
  show (body 0 a).bind _ = _
  rcases h with h | ⟨b, h0, h⟩
  · rw [h]; rfl
  rw [h0]
  show (body 1 b).bind _ = _
  rcases h with h | ⟨c, h1, h⟩
  · rw [h]; rfl
  rw [h1]
  show (body 2 c).bind _ = _
  rcases h with h | ⟨d, h2, h⟩
  · rw [h]; rfl
  rw [h2]
  show (body 3 d).bind _ = _
  rw [h]; rfl
/-- one round of Decode -/
theorem dec_round (s0 s : Bs) (l : List Int) (hs : s ≠ []) (hl : l.length + 4 ≤ 1000000000) :
    token_Decode_L2 s0 s l = if (s.take 4).all gdB then some (.inl (s.drop 4, l ++ nI (decP ((s.take 4).map iv)))) else some (.inr ([], 9)) := by
  unfold token_Decode_L2
  have hp : 0 < s.length := by cases s with | nil => exact absurd rfl hs | cons _ _ => simp
  rw [if_pos (by simp; omega), if_pos (by decide)]
  show rng (fun (k : Nat) (q : Int) => token_Decode_L3 s k q) _ 4 0 ((0 : Nat) : Int) = _
  have drop4 : s.drop (min 4 s.length) = s.drop 4 := by
    by_cases h6 : s.length ≤ 4
    · rw [List.drop_eq_nil_of_le h6, List.drop_eq_nil_of_le (by omega)]
    · rw [show min 4 s.length = 4 by omega]
  match s, hs with
  | [a], _ =>
    cases ga : gdB a
    · rw [if_neg (by simp [ga])]
      exact rng4b (.inl (dec_bad _ 0 _ a rfl (by omega) ga))
    · obtain ⟨_, ha⟩ := gd_t ga
      rw [if_pos (by simp [ga]), rng4 (body := fun (k : Nat) (q : Int) => token_Decode_L3 [a] k q) (dec_sign _ 0 0 a (by omega) rfl (by omega) ga) (dec_none _ 1 _ (by omega) (by simp)) (dec_none _ 2 _ (by omega) (by simp)) (dec_none _ 3 _ (by omega) (by simp))]
      rw [dec_E _ l _ 0 (by simp) (by omega) hl, drop4]; rfl
  | [a, b], _ =>
    cases ga : gdB a
    · rw [if_neg (by simp [ga])]
      exact rng4b (.inl (dec_bad _ 0 _ a rfl (by omega) ga))
    cases gb : gdB b
    · rw [if_neg (by simp [gb])]
      exact rng4b (.inr ⟨_, dec_sign _ 0 0 a (by omega) rfl (by omega) ga, .inl (dec_bad _ 1 _ b rfl (by omega) gb)⟩)
    · obtain ⟨_, ha⟩ := gd_t ga
      obtain ⟨_, hb⟩ := gd_t gb
      rw [if_pos (by simp [ga, gb]), rng4 (body := fun (k : Nat) (q : Int) => token_Decode_L3 [a, b] k q) (dec_sign _ 0 0 a (by omega) rfl (by omega) ga) (dec_sign _ 1 _ b (by omega) rfl (by omega) gb) (dec_none _ 2 _ (by omega) (by simp)) (dec_none _ 3 _ (by omega) (by simp))]
      rw [dec_E _ l _ 1 (by simp) (by omega) hl, drop4]
      have e : three ((((0 * 64 + iv a) * 64 + iv b) * 64) * 64) 1 = [iv a * 4 + iv b / 16] := by
        show [_ / 65536 % 256] = _
        congr 1; omega
      rw [e]; rfl
  | [a, b, c], _ =>
    cases ga : gdB a
    · rw [if_neg (by simp [ga])]
      exact rng4b (.inl (dec_bad _ 0 _ a rfl (by omega) ga))
    cases gb : gdB b
    · rw [if_neg (by simp [gb])]
      exact rng4b (.inr ⟨_, dec_sign _ 0 0 a (by omega) rfl (by omega) ga, .inl (dec_bad _ 1 _ b rfl (by omega) gb)⟩)
    obtain ⟨_, ha⟩ := gd_t ga
    obtain ⟨_, hb⟩ := gd_t gb
    cases gc : gdB c
    · rw [if_neg (by simp [gc])]
      exact rng4b (.inr ⟨_, dec_sign _ 0 0 a (by omega) rfl (by omega) ga, .inr ⟨_, dec_sign _ 1 _ b (by omega) rfl (by omega) gb, .inl (dec_bad _ 2 _ c rfl (by omega) gc)⟩⟩)
    · obtain ⟨_, hc⟩ := gd_t gc
      rw [if_pos (by simp [ga, gb, gc]), rng4 (body := fun (k : Nat) (q : Int) => token_Decode_L3 [a, b, c] k q) (dec_sign _ 0 0 a (by omega) rfl (by omega) ga) (dec_sign _ 1 _ b (by omega) rfl (by omega) gb) (dec_sign _ 2 _ c (by omega) rfl (by omega) gc) (dec_none _ 3 _ (by omega) (by simp))]
      rw [dec_E _ l _ 2 (by simp) (by omega) hl, drop4]
      have e : three ((((0 * 64 + iv a) * 64 + iv b) * 64 + iv c) * 64) 2 = [iv a * 4 + iv b / 16, iv b % 16 * 16 + iv c / 4] := by
        show [_ / 65536 % 256, _ / 256 % 256] = _
        congr 1
        · omega
        congr 1; omega
      rw [e]; rfl
  | a :: b :: c :: d :: r, _ =>
    cases ga : gdB a
    · rw [if_neg (by simp [ga])]
      exact rng4b (.inl (dec_bad _ 0 _ a rfl (by omega) ga))
    cases gb : gdB b
    · rw [if_neg (by simp [gb])]
      exact rng4b (.inr ⟨_, dec_sign _ 0 0 a (by omega) rfl (by omega) ga, .inl (dec_bad _ 1 _ b rfl (by omega) gb)⟩)
    obtain ⟨_, ha⟩ := gd_t ga
    obtain ⟨_, hb⟩ := gd_t gb
    cases gc : gdB c
    · rw [if_neg (by simp [gc])]
      exact rng4b (.inr ⟨_, dec_sign _ 0 0 a (by omega) rfl (by omega) ga, .inr ⟨_, dec_sign _ 1 _ b (by omega) rfl (by omega) gb, .inl (dec_bad _ 2 _ c rfl (by omega) gc)⟩⟩)
    obtain ⟨_, hc⟩ := gd_t gc
    cases gd : gdB d
    · rw [if_neg (by simp [gd])]
      exact rng4b (.inr ⟨_, dec_sign _ 0 0 a (by omega) rfl (by omega) ga, .inr ⟨_, dec_sign _ 1 _ b (by omega) rfl (by omega) gb, .inr ⟨_, dec_sign _ 2 _ c (by omega) rfl (by omega) gc, dec_bad _ 3 _ d rfl (by omega) gd⟩⟩⟩)
    · obtain ⟨_, hd⟩ := gd_t gd
      rw [if_pos (by simp [ga, gb, gc, gd]), rng4 (body := fun (k : Nat) (q : Int) => token_Decode_L3 (a :: b :: c :: d :: r) k q) (dec_sign _ 0 0 a (by omega) rfl (by omega) ga) (dec_sign _ 1 _ b (by omega) rfl (by omega) gb) (dec_sign _ 2 _ c (by omega) rfl (by omega) gc) (dec_sign _ 3 _ d (by omega) rfl (by omega) gd)]
      rw [dec_E _ l _ 3 (by simp) (by omega) hl, drop4]
      have e : three ((((0 * 64 + iv a) * 64 + iv b) * 64 + iv c) * 64 + iv d) 3 = [iv a * 4 + iv b / 16, iv b % 16 * 16 + iv c / 4, iv c % 4 * 64 + iv d] := by
        show [_ / 65536 % 256, _ / 256 % 256, _ / 1 % 256] = _
        congr 1
        · omega
        congr 1
        · omega
        congr 1; omega
      rw [e]; rfl
theorem decP_four (s : List Nat) : decP s = decP (s.take 4) ++ decP (s.drop 4) := by
  match s with
  | [] => rfl
  | [a] => rfl
  | [a, b] => rfl
  | [a, b, c] => rfl
  | a :: b :: c :: d :: r => rfl
theorem decI (s0 : Bs) : ∀ (n : Nat) (s : Bs) (l : List Int), s.length ≤ n → l.length + s.length + 4 ≤ 1000000000 → iter (fun (s : Bs × (List Int)) => token_Decode_L2 s0 s.1 s.2) (s, l) = if s.all gdB then token_Decode_J1 s0 (l ++ nI (decP (s.map iv))) else some ([], 9) := by
  intro n
  induction n with
  | zero =>
    intro s l h _
    obtain rfl : s = [] := List.length_eq_zero_iff.1 (by omega)
    rw [iter_eq]
    show (token_Decode_L2 s0 [] l).bind _ = _
    unfold token_Decode_L2
    rw [if_neg (by simp)]
    simp only [List.all_nil, if_true, List.map_nil, decP, nI, List.append_nil]
    cases token_Decode_J1 s0 l <;> rfl
  | succ n ih =>
    intro s l h hb
    by_cases hs : s = []
    · exact ih s l (by rw [hs]; simp) hb
    have hr := dec_round s0 s l hs (by omega)
    have hal : s.all gdB = ((s.take 4).all gdB && (s.drop 4).all gdB) := by rw [← List.all_append, List.take_append_drop]
    cases hq : (s.take 4).all gdB
    · rw [hq, if_neg (by simp)] at hr
      rw [iter_out (body := fun (s : Bs × (List Int)) => token_Decode_L2 s0 s.1 s.2) (s := (s, l)) hr, hal, hq]
      simp
    · rw [hq, if_pos rfl] at hr
      have hp : 0 < s.length := by cases s with | nil => exact absurd rfl hs | cons _ _ => simp
      have hd := decP_len ((s.take 4).map iv)
      simp only [List.length_map, List.length_take] at hd
      rw [iter_in (body := fun (s : Bs × (List Int)) => token_Decode_L2 s0 s.1 s.2) (s := (s, l)) hr, ih (s.drop 4) _ (by simp; omega) (by simp only [nI, List.length_append, List.length_map, List.length_drop]; omega), hal, hq, decP_four (s.map iv)]
      simp only [Bool.true_and, nI, List.map_append, List.append_assoc, List.map_take, List.map_drop]
theorem strN_len (l : List Int) : (strN l).length = l.length := by simp [strN]
/-- what both do behind the reading -/
def decF (s : Bs) : Bs × Int := if s.all gdB then (if encP (strN (nI (decP (s.map iv)))) ≠ s then ([], 9) else (strN (nI (decP (s.map iv))), 0)) else ([], 9)
theorem decode_eq (s : Bs) (h : s.length ≤ 100000000) : m_token_Decode s = some (decF s) := by
  unfold m_token_Decode
  rw [decI s s.length s [] (Nat.le_refl _) (by simp only [List.length_nil]; omega), List.nil_append]
  unfold decF
  cases hq : s.all gdB
  · simp
  · simp only [if_true]
    unfold token_Decode_J1
    have hd := decP_len (s.map iv)
    rw [encode_eq _ (by rw [strN_len]; simp [nI]; simp at hd; omega)]
    simp only [Option.bind_some]
    by_cases h1 : encP (strN (nI (decP (s.map iv)))) = s <;> simp [h1]
/-- the reference: eight bits at a time -/
theorem decd_eight (s0 : Bs) (v : Nat) (r : Bs) (l : List Int) (hv : v < 256) (hlen : r.length + 8 ≤ 1000000000) (ho : l.length + 1 ≤ 1000000000) : gateref2_Decoded_L3 s0 (bitsN 8 v ++ r) l = some (.inl (r, l ++ nI [v])) := by
  have hl := bits_len 8 v
  unfold gateref2_Decoded_L3
  rw [if_pos (by simp [hl]; omega), show (8 : Int) = ((8 : Nat) : Int) from rfl, sub_take _ 8 (by simp [hl])]
  have e2 : sub? (bitsN 8 v ++ r) ((8 : Nat) : Int) ((bitsN 8 v ++ r).length : Int) = some r := by
    unfold sub?
    rw [if_pos (by simp [hl]; omega), List.take_of_length_le (by simp only [List.length_drop]; omega)]
    simp only [Int.toNat_natCast]
    rw [List.drop_append_of_le_length (by omega), List.drop_eq_nil_of_le (by omega)]; rfl
  have e3 : (bitsN 8 v ++ r).take 8 = bitsN 8 v := by
    rw [List.take_append_of_le_length (by omega), List.take_of_length_le (by omega)]
  simp only [Option.bind_some]
  rw [e3, parse_eight v hv]
  simp only [Option.bind_some]
  rw [if_pos ho, e2]
  simp only [Option.bind_some]
  rw [u8_id hv]; rfl
theorem decd_end (s0 : Bs) (q : Bs) (l : List Int) (h : q.length < 8) : gateref2_Decoded_L3 s0 q l = Option.map .inr (gateref2_Decoded_J2 s0 l) := by
  unfold gateref2_Decoded_L3
  rw [if_neg (by simp; omega)]
def sixBits (s : List Nat) : Bs := s.flatMap fun v => bitsN 6 v
theorem sixBits_len (s : List Nat) : (sixBits s).length = 6 * s.length := by
  induction s with
  | nil => rfl
  | cons c s ih => unfold sixBits at ih ⊢; rw [List.flatMap_cons, List.length_append, bits_len, ih, List.length_cons]; omega
theorem iter_end {σ ρ : Type} {body : σ → Option (σ ⊕ ρ)} {s : σ} {e : Option ρ} (h : body s = e.map .inr) : iter body s = e := by
  rw [iter_eq, h]
  cases e <;> rfl
theorem decdI (s0 : Bs) : ∀ (s : List Nat) (l : List Int), (∀ v, v ∈ s → v < 64) → l.length + 6 * s.length + 10 ≤ 1000000000 → iter (fun (s : Bs × (List Int)) => gateref2_Decoded_L3 s0 s.1 s.2) (sixBits s, l) = gateref2_Decoded_J2 s0 (l ++ nI (decP s))
  | [], l, _, h => by
    rw [iter_end (body := fun (s : Bs × (List Int)) => gateref2_Decoded_L3 s0 s.1 s.2) (s := (sixBits [], l)) (decd_end s0 [] l (by simp))]
    simp [decP, nI]
  | [a], l, _, h => by
    rw [iter_end (body := fun (s : Bs × (List Int)) => gateref2_Decoded_L3 s0 s.1 s.2) (s := (sixBits [a], l)) (decd_end s0 (sixBits [a]) l (by rw [sixBits_len]; simp))]
    simp [decP, nI]
  | [a, b], l, hv, h => by
    have ha := hv a (by simp)
    have hb := hv b (by simp)
    simp only [List.length_cons, List.length_nil] at h
    have e : sixBits [a, b] = bitsN 8 (a * 4 + b / 16) ++ bitsN 4 (b % 16) := by
      unfold sixBits
      simp only [List.flatMap_cons, List.flatMap_nil, List.append_nil]
      rw [t24 b hb, ← i62 a ha (b / 16) (by omega), List.append_assoc]
    rw [e, iter_in (body := fun (s : Bs × (List Int)) => gateref2_Decoded_L3 s0 s.1 s.2) (s := (_, l)) (decd_eight s0 _ _ l (by omega) (by rw [bits_len]; omega) (by omega)), iter_end (body := fun (s : Bs × (List Int)) => gateref2_Decoded_L3 s0 s.1 s.2) (s := (_, _)) (decd_end s0 _ _ (by rw [bits_len]; omega))]
    simp [decP, nI]
  | [a, b, c], l, hv, h => by
    have ha := hv a (by simp)
    have hb := hv b (by simp)
    have hc := hv c (by simp)
    simp only [List.length_cons, List.length_nil] at h
    have e : sixBits [a, b, c] = bitsN 8 (a * 4 + b / 16) ++ (bitsN 8 (b % 16 * 16 + c / 4) ++ bitsN 2 (c % 4)) := by
      unfold sixBits
      simp only [List.flatMap_cons, List.flatMap_nil, List.append_nil]
      rw [t24 b hb, t42 c hc, ← i62 a ha (b / 16) (by omega), ← i44 (b % 16) (by omega) (c / 4) (by omega)]
      simp only [List.append_assoc]
    rw [e, iter_in (body := fun (s : Bs × (List Int)) => gateref2_Decoded_L3 s0 s.1 s.2) (s := (_, l)) (decd_eight s0 _ _ l (by omega) (by simp [bits_len]) (by omega)), iter_in (body := fun (s : Bs × (List Int)) => gateref2_Decoded_L3 s0 s.1 s.2) (s := (_, _)) (decd_eight s0 _ _ _ (by omega) (by simp [bits_len]) (by simp [nI]; omega)), iter_end (body := fun (s : Bs × (List Int)) => gateref2_Decoded_L3 s0 s.1 s.2) (s := (_, _)) (decd_end s0 _ _ (by rw [bits_len]; omega))]
    simp [decP, nI]
  | a :: b :: c :: d :: r, l, hv, h => by
    have ha := hv a (by simp)
    have hb := hv b (by simp)
    have hc := hv c (by simp)
    have hd := hv d (by simp)
    have hr := sixBits_len r
    simp only [List.length_cons] at h
    have e : sixBits (a :: b :: c :: d :: r) = bitsN 8 (a * 4 + b / 16) ++ (bitsN 8 (b % 16 * 16 + c / 4) ++ (bitsN 8 (c % 4 * 64 + d) ++ sixBits r)) := by
      unfold sixBits
      simp only [List.flatMap_cons]
      rw [t24 b hb, t42 c hc, ← i62 a ha (b / 16) (by omega), ← i44 (b % 16) (by omega) (c / 4) (by omega), ← i26 (c % 4) (by omega) d hd]
      simp only [List.append_assoc]
    rw [e, iter_in (body := fun (s : Bs × (List Int)) => gateref2_Decoded_L3 s0 s.1 s.2) (s := (_, l)) (decd_eight s0 _ _ l (by omega) (by simp [bits_len]; omega) (by omega)), iter_in (body := fun (s : Bs × (List Int)) => gateref2_Decoded_L3 s0 s.1 s.2) (s := (_, _)) (decd_eight s0 _ _ _ (by omega) (by simp [bits_len]; omega) (by simp [nI]; omega)), iter_in (body := fun (s : Bs × (List Int)) => gateref2_Decoded_L3 s0 s.1 s.2) (s := (_, _)) (decd_eight s0 _ _ _ (by omega) (by omega) (by simp [nI]; omega)), decdI s0 r _ (fun v hm => hv v (by simp [hm])) (by simp [nI]; omega)]
    simp [decP, nI]
theorem decoded_eq (s : Bs) (h : s.length ≤ 10000000) : m_gateref2_Decoded s = some (decF s) := by
  unfold m_gateref2_Decoded
  rw [if_pos (by omega)]
  have key : ∀ (l : Bs) (k : Nat) (bs : Bs), bs.length + 6 * l.length ≤ 1000000000 → forL (fun (k : Nat) (x : UInt8) (s : Bs) => gateref2_Decoded_L1 k x s) (fun (q : Bs) => gateref2_Decoded_E1 s q) k l bs = if l.all gdB then gateref2_Decoded_E1 s (bs ++ sixBits (l.map iv)) else some ([], 9) := by
    intro l
    induction l with
    | nil => intro k bs _; show gateref2_Decoded_E1 s bs = _; simp [sixBits]
    | cons c l ih =>
      intro k bs hl
      simp only [List.length_cons] at hl
      show (gateref2_Decoded_L1 k c bs).bind _ = _
      cases hg : gdB c
      · have e2 : gateref2_Decoded_L1 k c bs = some (.inr ([], 9)) := by
          have := gd_f hg
          unfold gateref2_Decoded_L1
          rw [index_eq]
          simp only [Option.bind_some]
          rw [if_pos (by simp; omega)]
        rw [e2]
        simp [hg, after]
      · obtain ⟨h2, h3⟩ := gd_t hg
        have e1 : sub? (49 :: bitsN 6 (iv c)) 1 ((49 :: bitsN 6 (iv c)).length : Int) = some (bitsN 6 (iv c)) := by
          unfold sub?
          rw [if_pos (by simp [bits_len]), List.take_of_length_le (by simp)]
          rfl
        have e2 : gateref2_Decoded_L1 k c bs = some (.inl (bs ++ bitsN 6 (iv c))) := by
          unfold gateref2_Decoded_L1
          rw [index_eq]
          simp only [Option.bind_some]
          rw [if_neg (by simp; omega), h2, fmt_six _ h3]
          simp only [Option.bind_some, e1]
          rw [if_pos (by rw [bits_len]; omega)]
        rw [e2]
        simp only [Option.bind_some, after]
        rw [ih (k + 1) _ (by simp only [List.length_append, bits_len]; omega)]
        simp only [List.all_cons, hg, Bool.true_and, List.map_cons]
        unfold sixBits
        rw [List.flatMap_cons, List.append_assoc]
  rw [key s 0 [] (by simp only [List.length_nil]; omega), List.nil_append]
  unfold decF
  cases hq : s.all gdB
  · simp
  · simp only [if_true]
    have hv : ∀ v, v ∈ s.map iv → v < 64 := by
      intro v hv
      obtain ⟨c, hc, rfl⟩ := List.mem_map.1 hv
      exact (gd_t (List.all_eq_true.1 hq c hc)).2
    unfold gateref2_Decoded_E1
    rw [decdI s (s.map iv) [] hv (by simp; omega), List.nil_append]
    unfold gateref2_Decoded_J2
    have hd := decP_len (s.map iv)
    rw [encoded_eq _ (by rw [strN_len]; simp [nI]; simp at hd; omega)]
    simp only [Option.bind_some]
    by_cases h1 : encP (strN (nI (decP (s.map iv)))) = s <;> simp [h1]
end Go.Proofs.YtiilgjigelbkcaaDoor
