/- Plain: two digits of hexadecimal; units and the bytes that they stand for: the program and the reference agree. -/
import Derived.Test.YtbejggfkfaibeaaGreatDoorMgYg
namespace Go.Proofs.YtbejggfkfaibeaaGreatDoor
set_option linter.unusedVariables false
set_option maxRecDepth 20000
/-- the value of a digit -/
def hx (c : UInt8) : Nat := if 48 ≤ c.toNat ∧ c.toNat ≤ 57 then c.toNat - 48 else if 97 ≤ c.toNat ∧ c.toNat ≤ 102 then c.toNat - 87 else if 65 ≤ c.toNat ∧ c.toNat ≤ 70 then c.toNat - 55 else 99
def isH (c : UInt8) : Bool := decide (hx c < 16)
theorem digit_at (c : UInt8) (k v : Nat) (hv : v < 16) : internal_strconv_ParseUint_L7 16 16 8 1152921504606846976 k (c.toNat : Int) false (v : Int) = if isH c then some (.inl (false, ((v * 16 + hx c : Nat) : Int))) else some (.inr (0, 2)) := by
  show internal_strconv_ParseUint_L7 16 16 8 1152921504606846976 0 (c.toNat : Int) false (v : Int) = _
  have := u8_all (fun c => (List.range 16).all fun v => decide (internal_strconv_ParseUint_L7 16 16 8 1152921504606846976 0 (c.toNat : Int) false ((v : Nat) : Int) = if isH c then some (.inl (false, ((v * 16 + hx c : Nat) : Int))) else some (.inr (0, 2)))) (by decide +kernel) c
  exact of_decide_eq_true ((List.all_eq_true.1 this) v (by simpa using hv))
theorem pu2 (a b : UInt8) : m_strconv_ParseUint [a, b] 16 8 = some (if isH a && isH b then (((16 * hx a + hx b : Nat) : Int), 0) else (0, 5)) := by
  have e1 : m_internal_strconv_ParseUint [a, b] 16 8 = forL (fun (k : Nat) (x : Int) (s : Bool × Int) => internal_strconv_ParseUint_L7 16 16 8 1152921504606846976 k x s.1 s.2) (fun (s : Bool × Int) => internal_strconv_ParseUint_E7 [a, b] s.1 s.2) 0 [(a.toNat : Int), (b.toNat : Int)] (false, 0) := rfl
  have e2 : m_internal_strconv_ParseUint [a, b] 16 8 = some (if isH a && isH b then (((16 * hx a + hx b : Nat) : Int), 0) else (0, 2)) := by
    rw [e1]
    show (internal_strconv_ParseUint_L7 16 16 8 1152921504606846976 0 (a.toNat : Int) false ((0 : Nat) : Int)).bind _ = _
    rw [digit_at a 0 0 (by omega)]
    cases ha : isH a
    · rfl
    · have hla : hx a < 16 := of_decide_eq_true ha
      simp only [if_true, Option.bind_some, after]
      show (internal_strconv_ParseUint_L7 16 16 8 1152921504606846976 1 (b.toNat : Int) false ((0 * 16 + hx a : Nat) : Int)).bind _ = _
      rw [digit_at b 1 _ (by omega)]
      cases hb : isH b
      · rfl
      · simp only [if_true, Option.bind_some, after, Bool.and_self]
        show internal_strconv_ParseUint_E7 [a, b] false _ = _
        unfold internal_strconv_ParseUint_E7 internal_strconv_ParseUint_J8
        simp only [Bool.false_eq_true, if_false]
        congr 3; omega
  unfold m_strconv_ParseUint
  rw [e2]
  cases isH a && isH b
  · rfl
  · rfl
/-- a byte that stands for itself, or a blank -/
def pl (plus : Bool) (c : UInt8) : UInt8 := if c = 43 ∧ plus = true then 32 else c
def h2 (a b : UInt8) : UInt8 := UInt8.ofNat (16 * hx a + hx b)
/-- the bytes that a string stands for -/
def dec (plus : Bool) : Bs → Option Bs
  | [] => some []
  | [c] => if c = 37 then none else some [pl plus c]
  | [c, d] => if c = 37 then none else (dec plus [d]).map (pl plus c :: ·)
  | c :: a :: b :: r => if c = 37 then (if isH a && isH b then (dec plus r).map (h2 a b :: ·) else none) else (dec plus (a :: b :: r)).map (pl plus c :: ·)
theorem dec_plain (plus : Bool) {c : UInt8} (hc : c ≠ 37) (r : Bs) : dec plus (c :: r) = (dec plus r).map (pl plus c :: ·) := by
  match r with
  | [] => simp [dec, hc]
  | [d] =>
    have : dec plus [c, d] = if c = 37 then none else (dec plus [d]).map (pl plus c :: ·) := rfl
    rw [this, if_neg hc]
  | a :: b :: r =>
    have : dec plus (c :: a :: b :: r) = if c = 37 then (if isH a && isH b then (dec plus r).map (h2 a b :: ·) else none) else (dec plus (a :: b :: r)).map (pl plus c :: ·) := rfl
    rw [this, if_neg hc]
theorem dec_unit (plus : Bool) (a b : UInt8) (r : Bs) : dec plus (37 :: a :: b :: r) = if isH a && isH b then (dec plus r).map (h2 a b :: ·) else none := by
  have : dec plus (37 :: a :: b :: r) = if (37 : UInt8) = 37 then (if isH a && isH b then (dec plus r).map (h2 a b :: ·) else none) else (dec plus (a :: b :: r)).map (pl plus 37 :: ·) := rfl
  rw [this, if_pos rfl]
theorem dec_short (plus : Bool) {r : Bs} (hr : r.length < 2) : dec plus (37 :: r) = none := by
  match r with
  | [] => simp [dec]
  | [d] => simp [dec]
theorem dec_len (plus : Bool) : ∀ (n : Nat) (s d : Bs), s.length ≤ n → dec plus s = some d → d.length ≤ s.length := by
  intro n
  induction n with
  | zero =>
    intro s d h hd
    obtain rfl : s = [] := List.length_eq_zero_iff.1 (by omega)
    cases hd; simp
  | succ n ih =>
    intro s d h hd
    match s with
    | [] => cases hd; simp
    | c :: r =>
      simp only [List.length_cons] at h ⊢
      by_cases hc : c = 37
      · subst hc
        match r with
        | [] => rw [dec_short plus (by simp)] at hd; cases hd
        | [x] => rw [dec_short plus (by simp)] at hd; cases hd
        | a :: b :: r =>
          rw [dec_unit] at hd
          split at hd
          · cases hq : dec plus r with
            | none => rw [hq] at hd; cases hd
            | some e =>
              rw [hq] at hd
              cases hd
              simp only [List.length_cons] at h ⊢
              have := ih r e (by omega) hq
              omega
          · cases hd
      · rw [dec_plain plus hc] at hd
        cases hq : dec plus r with
        | none => rw [hq] at hd; cases hd
        | some e =>
          rw [hq] at hd
          cases hd
          have := ih r e (by omega) hq
          simp only [List.length_cons]; omega
theorem hex_at (c : UInt8) : m_message_isHex (c.toNat : Int) = some (isH c) := by
  have := u8_all (fun c => decide (m_message_isHex (c.toNat : Int) = some (isH c))) (by decide +kernel) c
  exact of_decide_eq_true this
theorem at_drop {s : Bs} {i : Nat} {c : UInt8} {r : Bs} (h : s.drop i = c :: r) : at? s (i : Int) = some c ∧ i + r.length + 1 = s.length := by
  have h1 := congrArg List.length h
  simp only [List.length_drop, List.length_cons] at h1
  refine ⟨?_, by omega⟩
  rw [at_nat]
  have : (s.drop i)[0]? = some c := by rw [h]; rfl
  simpa using this
theorem drop_succ {s : Bs} {i : Nat} {c : UInt8} {r : Bs} (h : s.drop i = c :: r) : s.drop (i + 1) = r := by
  rw [← List.drop_drop, h]; rfl
def unH : Bs → Bool
  | a :: b :: _ => isH a && isH b
  | _ => false
theorem isUnit_eq {s : Bs} {i : Nat} {c : UInt8} {r : Bs} (h : s.drop i = c :: r) (hl : s.length ≤ 100000000) : m_message_isUnit s (i : Int) = some (unH r) := by
  obtain ⟨_, h1⟩ := at_drop h
  have h2 := drop_succ h
  unfold m_message_isUnit message_isUnit_J1
  have w1 : wr ((i : Int) + 1) = ((i + 1 : Nat) : Int) := by rw [wr_id (by omega)]; omega
  have w2 : wr ((i : Int) + 2) = ((i + 2 : Nat) : Int) := by rw [wr_id (by omega)]; omega
  rw [w1, w2]
  match r with
  | [] => rw [if_neg (by simp at h1 ⊢; omega)]; rfl
  | [x] => rw [if_neg (by simp at h1 ⊢; omega)]; rfl
  | a :: b :: t =>
    have h3 := drop_succ h2
    rw [if_pos (by simp only [List.length_cons] at h1; simp; omega), (at_drop h2).1]
    simp only [Option.bind_some, hex_at]
    rw [show i + 1 + 1 = i + 2 from rfl] at h3
    rw [show unH (a :: b :: t) = (isH a && isH b) from rfl]
    cases isH a
    · rfl
    · simp only [if_true, (at_drop h3).1, Option.bind_some, Bool.true_and]
theorem unit_eq {s : Bs} {i : Nat} {c a b : UInt8} {t : Bs} (h : s.drop i = c :: a :: b :: t) (hl : s.length ≤ 100000000) (hh : (isH a && isH b) = true) : m_message_unit s (i : Int) = some ((h2 a b).toNat : Int) := by
  have hd := drop_succ h
  obtain ⟨_, h1⟩ := at_drop h
  simp only [List.length_cons] at h1
  have w1 : wr ((i : Int) + 1) = ((i + 1 : Nat) : Int) := by rw [wr_id (by omega)]; omega
  have w3 : wr ((i : Int) + 3) = ((i + 3 : Nat) : Int) := by rw [wr_id (by omega)]; omega
  unfold m_message_unit
  rw [w1, w3]
  have hs : sub? s ((i + 1 : Nat) : Int) ((i + 3 : Nat) : Int) = some [a, b] := by
    unfold sub?
    rw [if_pos (by omega)]
    simp only [Int.toNat_natCast]
    rw [hd, show i + 3 - (i + 1) = 2 by omega]; rfl
  rw [hs]
  simp only [Option.bind_some]
  rw [pu2, hh]
  have ha : hx a < 16 := by simp [isH] at hh; exact hh.1
  have hb : hx b < 16 := by simp [isH] at hh; exact hh.2
  simp only [if_true, Option.bind_some, ne_eq, not_true_eq_false, decide_false, Bool.false_eq_true, if_false]
  first | rfl | (congr 1; unfold IntKind.wrap h2; simp [IntKind.bits, IntKind.signed])
theorem wbyte (l : List Int) (n : Int) (h : l.length + 1 ≤ 1000000000) : m_strings_Builder_WriteByte l n = some (0, l ++ [n]) := by
  unfold m_strings_Builder_WriteByte
  rw [if_pos h]
/-- the program's decoding -/
theorem decodedI (s : Bs) (plus : Bool) (hl : s.length ≤ 100000000) : ∀ (n i : Nat) (x : Bs), s.length - i ≤ n → i ≤ s.length → x.length ≤ i →
    iter (fun (q : Int × (List Int)) => message_decoded_L2 s plus q.1 q.2) ((i : Int), numsB x) = some (match dec plus (s.drop i) with | some d => (x ++ d, true) | none => ([], false)) := by
  intro n
  induction n with
  | zero =>
    intro i x h hi hx
    obtain rfl : i = s.length := by omega
    rw [iter_out (body := fun (q : Int × (List Int)) => message_decoded_L2 s plus q.1 q.2) (s := ((s.length : Int), numsB x)) (r := (x, true))]
    · simp [dec]
    · unfold message_decoded_L2 message_decoded_J1
      rw [if_neg (by simp), if_pos (byR_nums x), strN_nums']; rfl
  | succ n ih =>
    intro i x h hi hx
    cases hd : s.drop i with
    | nil =>
      have : s.length ≤ i := by simpa using hd
      obtain rfl : i = s.length := by omega
      have e := ih s.length x (by omega) (by omega) hx
      rw [List.drop_length] at e
      exact e
    | cons c r =>
      obtain ⟨g1, g2⟩ := at_drop hd
      have g3 := drop_succ hd
      have step : ∀ y : UInt8, y = pl plus c → c ≠ 37 → message_decoded_L2 s plus (i : Int) (numsB x) = some (.inl (((i + 1 : Nat) : Int), numsB (x ++ [y]))) → iter (fun (q : Int × (List Int)) => message_decoded_L2 s plus q.1 q.2) ((i : Int), numsB x) = some (match dec plus (c :: r) with | some d => (x ++ d, true) | none => ([], false)) := fun y hy hc hs => by
        rw [iter_in (body := fun (q : Int × (List Int)) => message_decoded_L2 s plus q.1 q.2) (s := ((i : Int), numsB x)) hs, ih (i + 1) _ (by omega) (by omega) (by simp; omega), g3, dec_plain plus hc, hy]
        cases dec plus r <;> simp
      have hw : wr ((i : Int) + 1) = ((i + 1 : Nat) : Int) := by rw [wr_id (by omega)]; omega
      have hlen : (numsB x).length + 1 ≤ 1000000000 := by rw [nums_len]; omega
      have hin : decide ((i : Int) < (s.length : Int)) = true := by simp; omega
      by_cases hp : c = 43 ∧ plus = true
      · refine step 32 (by unfold pl; rw [if_pos hp]) (by rw [hp.1]; decide) ?_
        unfold message_decoded_L2 message_decoded_J3
        rw [if_pos hin, g1]
        simp only [Option.bind_some]
        rw [if_pos (by rw [hp.1, hp.2]; rfl), wbyte _ _ hlen]
        simp only [Option.bind_some, hw, nums_app]; rfl
      · have hp' : ¬ ((decide ((c.toNat : Int) = 43)) && plus) = true := by
          intro h
          simp only [Bool.and_eq_true, decide_eq_true_eq] at h
          exact hp ⟨UInt8.toNat_inj.1 (by have := h.1; simp; omega), h.2⟩
        by_cases hc : c = 37
        · have hn : ¬ decide ((c.toNat : Int) ≠ 37) = true := by rw [hc]; decide
          have hu := isUnit_eq hd hl
          have hbad : unH r = false → dec plus (c :: r) = none → iter (fun (q : Int × (List Int)) => message_decoded_L2 s plus q.1 q.2) ((i : Int), numsB x) = some (match dec plus (c :: r) with | some d => (x ++ d, true) | none => ([], false)) := fun hb hdn => by
            rw [hb] at hu
            rw [hdn]
            refine iter_out (body := fun (q : Int × (List Int)) => message_decoded_L2 s plus q.1 q.2) (s := ((i : Int), numsB x)) ?_
            show message_decoded_L2 s plus (i : Int) (numsB x) = _
            unfold message_decoded_L2
            rw [if_pos hin, g1]
            simp only [Option.bind_some]
            rw [if_neg hp', if_neg hn, hu]
            rfl
          rcases r with _ | ⟨a, _ | ⟨b, t⟩⟩
          · exact hbad rfl (by rw [hc, dec_short plus (by simp)])
          · exact hbad rfl (by rw [hc, dec_short plus (by simp)])
          · cases hh : isH a && isH b
            · exact hbad hh (by rw [hc, dec_unit, hh]; rfl)
            · have hu : m_message_isUnit s (i : Int) = some (isH a && isH b) := hu
              have hun := unit_eq hd hl hh
              simp only [List.length_cons] at g2
              have g4 := drop_succ (drop_succ g3)
              have hs : message_decoded_L2 s plus (i : Int) (numsB x) = some (.inl (((i + 3 : Nat) : Int), numsB (x ++ [h2 a b]))) := by
                unfold message_decoded_L2 message_decoded_J3
                rw [if_pos hin, g1]
                simp only [Option.bind_some]
                rw [if_neg hp', if_neg hn, hu, hh]
                simp only [Option.bind_some, Bool.not_true, Bool.false_eq_true, if_false, hun]
                rw [wbyte _ _ hlen]
                simp only [Option.bind_some, nums_app]
                rw [wr_id (n := (i : Int) + 2) (by omega), wr_id (by omega)]
                congr 3
              rw [iter_in (body := fun (q : Int × (List Int)) => message_decoded_L2 s plus q.1 q.2) (s := ((i : Int), numsB x)) hs, ih (i + 3) _ (by omega) (by omega) (by simp; omega), show s.drop (i + 3) = t from g4, hc, dec_unit, hh]
              simp only [if_true]
              cases dec plus t <;> simp
        · refine step c (by unfold pl; rw [if_neg hp]) hc ?_
          unfold message_decoded_L2 message_decoded_J3
          rw [if_pos hin, g1]
          simp only [Option.bind_some]
          rw [if_neg hp', if_pos (by
            have : (c.toNat : Int) ≠ 37 := fun h => hc (UInt8.toNat_inj.1 (by simp; omega))
            simpa using this), wbyte _ _ hlen]
          simp only [Option.bind_some, hw, nums_app]; rfl
theorem decoded_eq (s : Bs) (plus : Bool) (hl : s.length ≤ 100000000) : m_message_decoded s plus = some (match dec plus s with | some d => (d, true) | none => ([], false)) := by
  unfold m_message_decoded
  have := decodedI s plus hl s.length 0 [] (by omega) (by omega) (by simp)
  simpa [numsB] using this
/-- the units of a string: a byte, and whether it stands for itself -/
def uns : Bs → Option (List (UInt8 × Bool))
  | [] => some []
  | [c] => if c = 37 then none else some [(c, true)]
  | [c, d] => if c = 37 then none else (uns [d]).map ((c, true) :: ·)
  | c :: a :: b :: r => if c = 37 then (if isH a && isH b then (uns r).map ((h2 a b, false) :: ·) else none) else (uns (a :: b :: r)).map ((c, true) :: ·)
theorem uns_plain {c : UInt8} (hc : c ≠ 37) (r : Bs) : uns (c :: r) = (uns r).map ((c, true) :: ·) := by
  match r with
  | [] => simp [uns, hc]
  | [d] =>
    have : uns [c, d] = if c = 37 then none else (uns [d]).map ((c, true) :: ·) := rfl
    rw [this, if_neg hc]
  | a :: b :: r =>
    have : uns (c :: a :: b :: r) = if c = 37 then (if isH a && isH b then (uns r).map ((h2 a b, false) :: ·) else none) else (uns (a :: b :: r)).map ((c, true) :: ·) := rfl
    rw [this, if_neg hc]
theorem uns_unit (a b : UInt8) (r : Bs) : uns (37 :: a :: b :: r) = if isH a && isH b then (uns r).map ((h2 a b, false) :: ·) else none := by
  have : uns (37 :: a :: b :: r) = if (37 : UInt8) = 37 then (if isH a && isH b then (uns r).map ((h2 a b, false) :: ·) else none) else (uns (a :: b :: r)).map ((37, true) :: ·) := rfl
  rw [this, if_pos rfl]
theorem uns_short {r : Bs} (hr : r.length < 2) : uns (37 :: r) = none := by
  match r with
  | [] => simp [uns]
  | [d] => simp [uns]
/-- by its first unit -/
theorem uns_ind {P : Bs → Prop} (h0 : P []) (h1 : ∀ r : Bs, uns (37 :: r) = none → (∀ plus, dec plus (37 :: r) = none) → unH r = false → P (37 :: r)) (h2_ : ∀ (a b : UInt8) (t : Bs), (isH a && isH b) = true → P t → P (37 :: a :: b :: t)) (h3 : ∀ (c : UInt8) (r : Bs), c ≠ 37 → P r → P (c :: r)) : ∀ s, P s := by
  have key : ∀ (n : Nat) (s : Bs), s.length ≤ n → P s := by
    intro n
    induction n with
    | zero => intro s h; obtain rfl : s = [] := List.length_eq_zero_iff.1 (by omega); exact h0
    | succ n ih =>
      intro s h
      match s with
      | [] => exact h0
      | c :: r =>
        simp only [List.length_cons] at h
        by_cases hc : c = 37
        · subst hc
          match r with
          | [] => exact h1 _ (uns_short (by simp)) (fun p => dec_short p (by simp)) rfl
          | [d] => exact h1 _ (uns_short (by simp)) (fun p => dec_short p (by simp)) rfl
          | a :: b :: t =>
            cases hh : isH a && isH b
            · exact h1 _ (by rw [uns_unit, hh]; rfl) (fun p => by rw [dec_unit, hh]; rfl) hh
            · exact h2_ a b t hh (ih t (by simp only [List.length_cons] at h; omega))
        · exact h3 c r hc (ih r (by omega))
  exact fun s => key s.length s (Nat.le_refl _)
theorem dec_uns (s : Bs) : dec false s = (uns s).map (List.map (·.1)) := by
  refine uns_ind (P := fun s => dec false s = (uns s).map (List.map (·.1))) rfl (fun r h1 h2 _ => by rw [h1, h2]; rfl) (fun a b t hh ih => ?_) (fun c r hc ih => ?_) s
  · rw [dec_unit, uns_unit, hh, if_pos rfl, if_pos rfl, ih]
    cases uns t <;> simp
  · rw [dec_plain false hc, uns_plain hc, ih]
    have hpl : pl false c = c := by unfold pl; rw [if_neg (by simp)]
    rw [hpl]
    cases uns r <;> simp
theorem uns_len (s : Bs) : ∀ u, uns s = some u → u.length ≤ s.length := by
  refine uns_ind (P := fun s => ∀ u, uns s = some u → u.length ≤ s.length) (fun u h => by cases h; simp) (fun r h1 h2 _ u h => by rw [h1] at h; cases h) (fun a b t hh ih u h => ?_) (fun c r hc ih u h => ?_) s
  · rw [uns_unit, hh, if_pos rfl] at h
    cases hq : uns t with
    | none => rw [hq] at h; cases h
    | some e => rw [hq] at h; cases h; have := ih e hq; simp only [List.length_cons]; omega
  · rw [uns_plain hc] at h
    cases hq : uns r with
    | none => rw [hq] at h; cases h
    | some e => rw [hq] at h; cases h; have := ih e hq; simp only [List.length_cons]; omega
def mkU (p : UInt8 × Bool) : S_gateref2_unit := S_gateref2_unit.mk (p.1.toNat : Int) p.2
/-- the reference's units -/
theorem unitsU (s : Bs) : ∀ (l : List S_gateref2_unit), l.length + s.length ≤ 100000000 →
    iter (fun (q : Bs × (List S_gateref2_unit)) => gateref2_units_L2 q.1 q.2) (s, l) = some (match uns s with | some u => (l ++ u.map mkU, true) | none => ([], false)) := by
  refine uns_ind (P := fun s => ∀ (l : List S_gateref2_unit), l.length + s.length ≤ 100000000 →
    iter (fun (q : Bs × (List S_gateref2_unit)) => gateref2_units_L2 q.1 q.2) (s, l) = some (match uns s with | some u => (l ++ u.map mkU, true) | none => ([], false))) ?_ ?_ ?_ ?_ s
  · intro l h
    rw [iter_out (body := fun (q : Bs × (List S_gateref2_unit)) => gateref2_units_L2 q.1 q.2) (s := ([], l)) (r := (l, true)) rfl]
    simp [uns]
  · intro r h1 _ hb l h
    rw [h1]
    refine iter_out (body := fun (q : Bs × (List S_gateref2_unit)) => gateref2_units_L2 q.1 q.2) (s := (37 :: r, l)) ?_
    have hne : decide ((37 : UInt8) :: r ≠ []) = true := by simp
    show gateref2_units_L2 (37 :: r) l = _
    unfold gateref2_units_L2
    rw [if_pos hne]
    simp only [List.getElem?_cons_zero, Option.bind_some]
    rw [if_neg (by decide)]
    match r with
    | [] => rw [if_pos (by simp)]
    | [d] => rw [if_pos (by simp)]
    | a :: b :: t =>
      have hs13 : sub? ((37 : UInt8) :: a :: b :: t) 1 3 = some [a, b] := by
        unfold sub?
        rw [if_pos (by simp only [List.length_cons]; omega)]; rfl
      have hb : (isH a && isH b) = false := hb
      rw [if_neg (by simp only [List.length_cons]; simp; omega), hs13]
      simp only [Option.bind_some]
      rw [pu2, hb]; rfl
  · intro a b t hh ih l h
    have hne : decide ((37 : UInt8) :: a :: b :: t ≠ []) = true := by simp
    have hlen3 : ¬ decide ((((37 : UInt8) :: a :: b :: t).length : Int) < 3) = true := by simp only [List.length_cons]; simp; omega
    have hs13 : sub? ((37 : UInt8) :: a :: b :: t) 1 3 = some [a, b] := by
      unfold sub?
      rw [if_pos (by simp only [List.length_cons]; omega)]; rfl
    have ha : hx a < 16 := by simp [isH] at hh; exact hh.1
    have hb2 : hx b < 16 := by simp [isH] at hh; exact hh.2
    simp only [List.length_cons] at h
    have hs : gateref2_units_L2 ((37 : UInt8) :: a :: b :: t) l = some (.inl (t, l ++ [S_gateref2_unit.mk ((h2 a b).toNat : Int) false])) := by
      have hs3 : sub? ((37 : UInt8) :: a :: b :: t) 3 (((37 : UInt8) :: a :: b :: t).length : Int) = some t := by
        unfold sub?
        rw [if_pos (by simp only [List.length_cons]; omega), List.take_of_length_le (by simp only [List.length_drop]; omega)]; rfl
      unfold gateref2_units_L2
      rw [if_pos hne]
      simp only [List.getElem?_cons_zero, Option.bind_some]
      rw [if_neg (by decide), if_neg hlen3, hs13]
      simp only [Option.bind_some]
      rw [pu2, hh]
      simp only [if_true, Option.bind_some, ne_eq, not_true_eq_false, decide_false, Bool.false_eq_true, if_false]
      rw [if_pos (by omega), hs3]
      first | rfl | (simp only [Option.bind_some]; congr 5; unfold IntKind.wrap h2; simp [IntKind.bits, IntKind.signed])
    rw [iter_in (body := fun (q : Bs × (List S_gateref2_unit)) => gateref2_units_L2 q.1 q.2) (s := (37 :: a :: b :: t, l)) hs, ih _ (by simp; omega), uns_unit, hh, if_pos rfl]
    cases uns t <;> simp [mkU]
  · intro c r hc ih l h
    simp only [List.length_cons] at h
    have hne : decide (c :: r ≠ []) = true := by simp
    have hs : gateref2_units_L2 (c :: r) l = some (.inl (r, l ++ [S_gateref2_unit.mk (c.toNat : Int) true])) := by
      have hs1 : sub? (c :: r) 1 ((c :: r).length : Int) = some r := by
        unfold sub?
        rw [if_pos (by simp only [List.length_cons]; omega), List.take_of_length_le (by simp only [List.length_drop]; omega)]; rfl
      have hcn : (c.toNat : Int) ≠ 37 := fun h => hc (UInt8.toNat_inj.1 (by simp; omega))
      unfold gateref2_units_L2
      rw [if_pos hne]
      simp only [List.getElem?_cons_zero, Option.bind_some]
      rw [if_pos (by simpa using hcn), if_pos (by omega), hs1]
      rfl
    rw [iter_in (body := fun (q : Bs × (List S_gateref2_unit)) => gateref2_units_L2 q.1 q.2) (s := (c :: r, l)) hs, ih _ (by simp; omega), uns_plain hc]
    cases uns r <;> simp [mkU]
theorem units_eq (s : Bs) (h : s.length ≤ 100000000) : m_gateref2_units s = some (match uns s with | some u => (u.map mkU, true) | none => ([], false)) := by
  unfold m_gateref2_units
  have := unitsU s [] (by simpa using h)
  simpa using this
end Go.Proofs.YtbejggfkfaibeaaGreatDoor
