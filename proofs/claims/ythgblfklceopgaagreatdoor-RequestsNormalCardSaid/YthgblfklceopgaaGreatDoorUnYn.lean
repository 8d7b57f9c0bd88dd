/- Plain: two digits of hexadecimal; units and the bytes that they stand for: the program and the reference agree. -/
import Derived.Test.YthgblfklceopgaaGreatDoorMgYn
namespace Go.Proofs.YthgblfklceopgaaGreatDoor
set_option linter.unusedVariables false
set_option maxRecDepth 20000
def hx (c : UInt8) : Nat := if 48 ≤ c.toNat ∧ c.toNat ≤ 57 then c.toNat - 48 else if 97 ≤ c.toNat ∧ c.toNat ≤ 102 then c.toNat - 87 else if 65 ≤ c.toNat ∧ c.toNat ≤ 70 then c.toNat - 55 else 99
def isH (c : UInt8) : Bool := decide (hx c < 16)
theorem zzs (c : UInt8) (k v : Nat) (hv : v < 16) : zbt 16 16 8 1152921504606846976 k (c.toNat : Int) false (v : Int) = if isH c then some (.inl (false, ((v * 16 + hx c : Nat) : Int))) else some (.inr (0, 2)) := by
  show zbt 16 16 8 1152921504606846976 0 (c.toNat : Int) false (v : Int) = _
  have := zn9 (fun c => (List.range 16).all fun v => decide (zbt 16 16 8 1152921504606846976 0 (c.toNat : Int) false ((v : Nat) : Int) = if isH c then some (.inl (false, ((v * 16 + hx c : Nat) : Int))) else some (.inr (0, 2)))) (by decide +kernel) c
  exact of_decide_eq_true ((List.all_eq_true.1 this) v (by simpa using hv))
theorem pu2 (a b : UInt8) : zh4 [a, b] 16 8 = some (if isH a && isH b then (((16 * hx a + hx b : Nat) : Int), 0) else (0, 5)) := by
  have e1 : zdi [a, b] 16 8 = forL (fun (k : Nat) (x : Int) (s : Bool × Int) => zbt 16 16 8 1152921504606846976 k x s.1 s.2) (fun (s : Bool × Int) => zde [a, b] s.1 s.2) 0 [(a.toNat : Int), (b.toNat : Int)] (false, 0) := rfl
  have e2 : zdi [a, b] 16 8 = some (if isH a && isH b then (((16 * hx a + hx b : Nat) : Int), 0) else (0, 2)) := by
    rw [e1]
    show (zbt 16 16 8 1152921504606846976 0 (a.toNat : Int) false ((0 : Nat) : Int)).bind _ = _
    rw [zzs a 0 0 (by omega)]
    cases ha : isH a
    · rfl
    · have hla : hx a < 16 := of_decide_eq_true ha
      simp only [if_true, Option.bind_some, after]
      show (zbt 16 16 8 1152921504606846976 1 (b.toNat : Int) false ((0 * 16 + hx a : Nat) : Int)).bind _ = _
      rw [zzs b 1 _ (by omega)]
      cases hb : isH b
      · rfl
      · simp only [if_true, Option.bind_some, after, Bool.and_self]
        show zde [a, b] false _ = _
        unfold zde zdc
        simp only [Bool.false_eq_true, if_false]
        congr 3; omega
  unfold zh4
  rw [e2]
  cases isH a && isH b
  · rfl
  · rfl
def pl (plus : Bool) (c : UInt8) : UInt8 := if c = 43 ∧ plus = true then 32 else c
def h2 (a b : UInt8) : UInt8 := UInt8.ofNat (16 * hx a + hx b)
def dec (plus : Bool) : Bs → Option Bs
  | [] => some []
  | [c] => if c = 37 then none else some [pl plus c]
  | [c, d] => if c = 37 then none else (dec plus [d]).map (pl plus c :: ·)
  | c :: a :: b :: r => if c = 37 then (if isH a && isH b then (dec plus r).map (h2 a b :: ·) else none) else (dec plus (a :: b :: r)).map (pl plus c :: ·)
theorem zk6 (plus : Bool) {c : UInt8} (hc : c ≠ 37) (r : Bs) : dec plus (c :: r) = (dec plus r).map (pl plus c :: ·) := by
  match r with
  | [] => simp [dec, hc]
  | [d] =>
    have : dec plus [c, d] = if c = 37 then none else (dec plus [d]).map (pl plus c :: ·) := rfl
    rw [this, if_neg hc]
  | a :: b :: r =>
    have : dec plus (c :: a :: b :: r) = if c = 37 then (if isH a && isH b then (dec plus r).map (h2 a b :: ·) else none) else (dec plus (a :: b :: r)).map (pl plus c :: ·) := rfl
    rw [this, if_neg hc]
theorem zk1 (plus : Bool) (a b : UInt8) (r : Bs) : dec plus (37 :: a :: b :: r) = if isH a && isH b then (dec plus r).map (h2 a b :: ·) else none := by
  have : dec plus (37 :: a :: b :: r) = if (37 : UInt8) = 37 then (if isH a && isH b then (dec plus r).map (h2 a b :: ·) else none) else (dec plus (a :: b :: r)).map (pl plus 37 :: ·) := rfl
  rw [this, if_pos rfl]
theorem zpg (plus : Bool) {r : Bs} (hr : r.length < 2) : dec plus (37 :: r) = none := by
  match r with
  | [] => simp [dec]
  | [d] => simp [dec]
theorem z7r (plus : Bool) : ∀ (n : Nat) (s d : Bs), s.length ≤ n → dec plus s = some d → d.length ≤ s.length := by
  intro n
  induction n with
  | zero =>
    intro s d h hd
    obtain rfl : s = [] := List.length_eq_zero_iff.1 (by omega)
    cases hd; simp
  | succ n ih =>
    intro s d h hd
    match s with
    | [] => cases hd; simp
    | c :: r =>
      simp only [List.length_cons] at h ⊢
      by_cases hc : c = 37
      · subst hc
        match r with
        | [] => rw [zpg plus (by simp)] at hd; cases hd
        | [x] => rw [zpg plus (by simp)] at hd; cases hd
        | a :: b :: r =>
          rw [zk1] at hd
          split at hd
          · cases hq : dec plus r with
            | none => rw [hq] at hd; cases hd
            | some e =>
              rw [hq] at hd
              cases hd
              simp only [List.length_cons] at h ⊢
              have := ih r e (by omega) hq
              omega
          · cases hd
      · rw [zk6 plus hc] at hd
        cases hq : dec plus r with
        | none => rw [hq] at hd; cases hd
        | some e =>
          rw [hq] at hd
          cases hd
          have := ih r e (by omega) hq
          simp only [List.length_cons]; omega
theorem z8k (c : UInt8) : zki (c.toNat : Int) = some (isH c) := by
  have := zn9 (fun c => decide (zki (c.toNat : Int) = some (isH c))) (by decide +kernel) c
  exact of_decide_eq_true this
theorem zq1 {s : Bs} {i : Nat} {c : UInt8} {r : Bs} (h : s.drop i = c :: r) : at? s (i : Int) = some c ∧ i + r.length + 1 = s.length := by
  have h1 := congrArg List.length h
  simp only [List.length_drop, List.length_cons] at h1
  refine ⟨?_, by omega⟩
  rw [zvc]
  have : (s.drop i)[0]? = some c := by rw [h]; rfl
  simpa using this
theorem zl6 {s : Bs} {i : Nat} {c : UInt8} {r : Bs} (h : s.drop i = c :: r) : s.drop (i + 1) = r := by
  rw [← List.drop_drop, h]; rfl
def unH : Bs → Bool
  | a :: b :: _ => isH a && isH b
  | _ => false
theorem zuh {s : Bs} {i : Nat} {c : UInt8} {r : Bs} (h : s.drop i = c :: r) (hl : s.length ≤ 100000000) : zhm s (i : Int) = some (unH r) := by
  obtain ⟨_, h1⟩ := zq1 h
  have h2 := zl6 h
  unfold zhm zh0
  have w1 : wr ((i : Int) + 1) = ((i + 1 : Nat) : Int) := by rw [zlh (by omega)]; omega
  have w2 : wr ((i : Int) + 2) = ((i + 2 : Nat) : Int) := by rw [zlh (by omega)]; omega
  rw [w1, w2]
  match r with
  | [] => rw [if_neg (by simp at h1 ⊢; omega)]; rfl
  | [x] => rw [if_neg (by simp at h1 ⊢; omega)]; rfl
  | a :: b :: t =>
    have h3 := zl6 h2
    rw [if_pos (by simp only [List.length_cons] at h1; simp; omega), (zq1 h2).1]
    simp only [Option.bind_some, z8k]
    rw [show i + 1 + 1 = i + 2 from rfl] at h3
    rw [show unH (a :: b :: t) = (isH a && isH b) from rfl]
    cases isH a
    · rfl
    · simp only [if_true, (zq1 h3).1, Option.bind_some, Bool.true_and]
theorem z0x {s : Bs} {i : Nat} {c a b : UInt8} {t : Bs} (h : s.drop i = c :: a :: b :: t) (hl : s.length ≤ 100000000) (hh : (isH a && isH b) = true) : zk7 s (i : Int) = some ((h2 a b).toNat : Int) := by
  have hd := zl6 h
  obtain ⟨_, h1⟩ := zq1 h
  simp only [List.length_cons] at h1
  have w1 : wr ((i : Int) + 1) = ((i + 1 : Nat) : Int) := by rw [zlh (by omega)]; omega
  have w3 : wr ((i : Int) + 3) = ((i + 3 : Nat) : Int) := by rw [zlh (by omega)]; omega
  unfold zk7
  rw [w1, w3]
  have hs : sub? s ((i + 1 : Nat) : Int) ((i + 3 : Nat) : Int) = some [a, b] := by
    unfold sub?
    rw [if_pos (by omega)]
    simp only [Int.toNat_natCast]
    rw [hd, show i + 3 - (i + 1) = 2 by omega]; rfl
  rw [hs]
  simp only [Option.bind_some]
  rw [pu2, hh]
  have ha : hx a < 16 := by simp [isH] at hh; exact hh.1
  have hb : hx b < 16 := by simp [isH] at hh; exact hh.2
  simp only [if_true, Option.bind_some, ne_eq, not_true_eq_false, decide_false, Bool.false_eq_true, if_false]
  first | rfl | (congr 1; unfold IntKind.wrap h2; simp [IntKind.bits, IntKind.signed])
theorem zxr (l : List Int) (n : Int) (h : l.length + 1 ≤ 1000000000) : zbl l n = some (0, l ++ [n]) := by
  unfold zbl
  rw [if_pos h]
theorem z4w (s : Bs) (plus : Bool) (hl : s.length ≤ 100000000) : ∀ (n i : Nat) (x : Bs), s.length - i ≤ n → i ≤ s.length → x.length ≤ i →
    iter (fun (q : Int × (List Int)) => zbo s plus q.1 q.2) ((i : Int), zdv x) = some (match dec plus (s.drop i) with | some d => (x ++ d, true) | none => ([], false)) := by
  intro n
  induction n with
  | zero =>
    intro i x h hi hx
    obtain rfl : i = s.length := by omega
    rw [zne (body := fun (q : Int × (List Int)) => zbo s plus q.1 q.2) (s := ((s.length : Int), zdv x)) (r := (x, true))]
    · simp [dec]
    · unfold zbo zjv
      rw [if_neg (by simp), if_pos (zwh x), zn7]; rfl
  | succ n ih =>
    intro i x h hi hx
    cases hd : s.drop i with
    | nil =>
      have : s.length ≤ i := by simpa using hd
      obtain rfl : i = s.length := by omega
      have e := ih s.length x (by omega) (by omega) hx
      rw [List.drop_length] at e
      exact e
    | cons c r =>
      obtain ⟨g1, g2⟩ := zq1 hd
      have g3 := zl6 hd
      have step : ∀ y : UInt8, y = pl plus c → c ≠ 37 → zbo s plus (i : Int) (zdv x) = some (.inl (((i + 1 : Nat) : Int), zdv (x ++ [y]))) → iter (fun (q : Int × (List Int)) => zbo s plus q.1 q.2) ((i : Int), zdv x) = some (match dec plus (c :: r) with | some d => (x ++ d, true) | none => ([], false)) := fun y hy hc hs => by
        rw [zqy (body := fun (q : Int × (List Int)) => zbo s plus q.1 q.2) (s := ((i : Int), zdv x)) hs, ih (i + 1) _ (by omega) (by omega) (by simp; omega), g3, zk6 plus hc, hy]
        cases dec plus r <;> simp
      have hw : wr ((i : Int) + 1) = ((i + 1 : Nat) : Int) := by rw [zlh (by omega)]; omega
      have hlen : (zdv x).length + 1 ≤ 1000000000 := by rw [zn3]; omega
      have hin : decide ((i : Int) < (s.length : Int)) = true := by simp; omega
      by_cases hp : c = 43 ∧ plus = true
      · refine step 32 (by unfold pl; rw [if_pos hp]) (by rw [hp.1]; decide) ?_
        unfold zbo zet
        rw [if_pos hin, g1]
        simp only [Option.bind_some]
        rw [if_pos (by rw [hp.1, hp.2]; rfl), zxr _ _ hlen]
        simp only [Option.bind_some, hw, zlq]; rfl
      · have hp' : ¬ ((decide ((c.toNat : Int) = 43)) && plus) = true := by
          intro h
          simp only [Bool.and_eq_true, decide_eq_true_eq] at h
          exact hp ⟨UInt8.toNat_inj.1 (by have := h.1; simp; omega), h.2⟩
        by_cases hc : c = 37
        · have hn : ¬ decide ((c.toNat : Int) ≠ 37) = true := by rw [hc]; decide
          have hu := zuh hd hl
          have hbad : unH r = false → dec plus (c :: r) = none → iter (fun (q : Int × (List Int)) => zbo s plus q.1 q.2) ((i : Int), zdv x) = some (match dec plus (c :: r) with | some d => (x ++ d, true) | none => ([], false)) := fun hb hdn => by
            rw [hb] at hu
            rw [hdn]
            refine zne (body := fun (q : Int × (List Int)) => zbo s plus q.1 q.2) (s := ((i : Int), zdv x)) ?_
            show zbo s plus (i : Int) (zdv x) = _
            unfold zbo
            rw [if_pos hin, g1]
            simp only [Option.bind_some]
            rw [if_neg hp', if_neg hn, hu]
            rfl
          rcases r with _ | ⟨a, _ | ⟨b, t⟩⟩
          · exact hbad rfl (by rw [hc, zpg plus (by simp)])
          · exact hbad rfl (by rw [hc, zpg plus (by simp)])
          · cases hh : isH a && isH b
            · exact hbad hh (by rw [hc, zk1, hh]; rfl)
            · have hu : zhm s (i : Int) = some (isH a && isH b) := hu
              have hun := z0x hd hl hh
              simp only [List.length_cons] at g2
              have g4 := zl6 (zl6 g3)
              have hs : zbo s plus (i : Int) (zdv x) = some (.inl (((i + 3 : Nat) : Int), zdv (x ++ [h2 a b]))) := by
                unfold zbo zet
                rw [if_pos hin, g1]
                simp only [Option.bind_some]
                rw [if_neg hp', if_neg hn, hu, hh]
                simp only [Option.bind_some, Bool.not_true, Bool.false_eq_true, if_false, hun]
                rw [zxr _ _ hlen]
                simp only [Option.bind_some, zlq]
                rw [zlh (n := (i : Int) + 2) (by omega), zlh (by omega)]
                congr 3
              rw [zqy (body := fun (q : Int × (List Int)) => zbo s plus q.1 q.2) (s := ((i : Int), zdv x)) hs, ih (i + 3) _ (by omega) (by omega) (by simp; omega), show s.drop (i + 3) = t from g4, hc, zk1, hh]
              simp only [if_true]
              cases dec plus t <;> simp
        · refine step c (by unfold pl; rw [if_neg hp]) hc ?_
          unfold zbo zet
          rw [if_pos hin, g1]
          simp only [Option.bind_some]
          rw [if_neg hp', if_pos (by
            have : (c.toNat : Int) ≠ 37 := fun h => hc (UInt8.toNat_inj.1 (by simp; omega))
            simpa using this), zxr _ _ hlen]
          simp only [Option.bind_some, hw, zlq]; rfl
theorem z0l (s : Bs) (plus : Bool) (hl : s.length ≤ 100000000) : zh8 s plus = some (match dec plus s with | some d => (d, true) | none => ([], false)) := by
  unfold zh8
  have := z4w s plus hl s.length 0 [] (by omega) (by omega) (by simp)
  simpa [zdv] using this
def uns : Bs → Option (List (UInt8 × Bool))
  | [] => some []
  | [c] => if c = 37 then none else some [(c, true)]
  | [c, d] => if c = 37 then none else (uns [d]).map ((c, true) :: ·)
  | c :: a :: b :: r => if c = 37 then (if isH a && isH b then (uns r).map ((h2 a b, false) :: ·) else none) else (uns (a :: b :: r)).map ((c, true) :: ·)
theorem zqe {c : UInt8} (hc : c ≠ 37) (r : Bs) : uns (c :: r) = (uns r).map ((c, true) :: ·) := by
  match r with
  | [] => simp [uns, hc]
  | [d] =>
    have : uns [c, d] = if c = 37 then none else (uns [d]).map ((c, true) :: ·) := rfl
    rw [this, if_neg hc]
  | a :: b :: r =>
    have : uns (c :: a :: b :: r) = if c = 37 then (if isH a && isH b then (uns r).map ((h2 a b, false) :: ·) else none) else (uns (a :: b :: r)).map ((c, true) :: ·) := rfl
    rw [this, if_neg hc]
theorem zrx (a b : UInt8) (r : Bs) : uns (37 :: a :: b :: r) = if isH a && isH b then (uns r).map ((h2 a b, false) :: ·) else none := by
  have : uns (37 :: a :: b :: r) = if (37 : UInt8) = 37 then (if isH a && isH b then (uns r).map ((h2 a b, false) :: ·) else none) else (uns (a :: b :: r)).map ((37, true) :: ·) := rfl
  rw [this, if_pos rfl]
theorem zwp {r : Bs} (hr : r.length < 2) : uns (37 :: r) = none := by
  match r with
  | [] => simp [uns]
  | [d] => simp [uns]
theorem zvh {P : Bs → Prop} (h0 : P []) (h1 : ∀ r : Bs, uns (37 :: r) = none → (∀ plus, dec plus (37 :: r) = none) → unH r = false → P (37 :: r)) (h2_ : ∀ (a b : UInt8) (t : Bs), (isH a && isH b) = true → P t → P (37 :: a :: b :: t)) (h3 : ∀ (c : UInt8) (r : Bs), c ≠ 37 → P r → P (c :: r)) : ∀ s, P s := by
  have key : ∀ (n : Nat) (s : Bs), s.length ≤ n → P s := by
    intro n
    induction n with
    | zero => intro s h; obtain rfl : s = [] := List.length_eq_zero_iff.1 (by omega); exact h0
    | succ n ih =>
      intro s h
      match s with
      | [] => exact h0
      | c :: r =>
        simp only [List.length_cons] at h
        by_cases hc : c = 37
        · subst hc
          match r with
          | [] => exact h1 _ (zwp (by simp)) (fun p => zpg p (by simp)) rfl
          | [d] => exact h1 _ (zwp (by simp)) (fun p => zpg p (by simp)) rfl
          | a :: b :: t =>
            cases hh : isH a && isH b
            · exact h1 _ (by rw [zrx, hh]; rfl) (fun p => by rw [zk1, hh]; rfl) hh
            · exact h2_ a b t hh (ih t (by simp only [List.length_cons] at h; omega))
        · exact h3 c r hc (ih r (by omega))
  exact fun s => key s.length s (Nat.le_refl _)
theorem z2q (s : Bs) : dec false s = (uns s).map (List.map (·.1)) := by
  refine zvh (P := fun s => dec false s = (uns s).map (List.map (·.1))) rfl (fun r h1 h2 _ => by rw [h1, h2]; rfl) (fun a b t hh ih => ?_) (fun c r hc ih => ?_) s
  · rw [zk1, zrx, hh, if_pos rfl, if_pos rfl, ih]
    cases uns t <;> simp
  · rw [zk6 false hc, zqe hc, ih]
    have hpl : pl false c = c := by unfold pl; rw [if_neg (by simp)]
    rw [hpl]
    cases uns r <;> simp
theorem z0v (s : Bs) : ∀ u, uns s = some u → u.length ≤ s.length := by
  refine zvh (P := fun s => ∀ u, uns s = some u → u.length ≤ s.length) (fun u h => by cases h; simp) (fun r h1 h2 _ u h => by rw [h1] at h; cases h) (fun a b t hh ih u h => ?_) (fun c r hc ih u h => ?_) s
  · rw [zrx, hh, if_pos rfl] at h
    cases hq : uns t with
    | none => rw [hq] at h; cases h
    | some e => rw [hq] at h; cases h; have := ih e hq; simp only [List.length_cons]; omega
  · rw [zqe hc] at h
    cases hq : uns r with
    | none => rw [hq] at h; cases h
    | some e => rw [hq] at h; cases h; have := ih e hq; simp only [List.length_cons]; omega
def mkU (p : UInt8 × Bool) : za0 := za0.mk (p.1.toNat : Int) p.2
theorem z7z (s : Bs) : ∀ (l : List za0), l.length + s.length ≤ 100000000 →
    iter (fun (q : Bs × (List za0)) => zca q.1 q.2) (s, l) = some (match uns s with | some u => (l ++ u.map mkU, true) | none => ([], false)) := by
  refine zvh (P := fun s => ∀ (l : List za0), l.length + s.length ≤ 100000000 →
    iter (fun (q : Bs × (List za0)) => zca q.1 q.2) (s, l) = some (match uns s with | some u => (l ++ u.map mkU, true) | none => ([], false))) ?_ ?_ ?_ ?_ s
  · intro l h
    rw [zne (body := fun (q : Bs × (List za0)) => zca q.1 q.2) (s := ([], l)) (r := (l, true)) rfl]
    simp [uns]
  · intro r h1 _ hb l h
    rw [h1]
    refine zne (body := fun (q : Bs × (List za0)) => zca q.1 q.2) (s := (37 :: r, l)) ?_
    have hne : decide ((37 : UInt8) :: r ≠ []) = true := by simp
    show zca (37 :: r) l = _
    unfold zca
    rw [if_pos hne]
    simp only [List.getElem?_cons_zero, Option.bind_some]
    rw [if_neg (by decide)]
    match r with
    | [] => rw [if_pos (by simp)]
    | [d] => rw [if_pos (by simp)]
    | a :: b :: t =>
      have hs13 : sub? ((37 : UInt8) :: a :: b :: t) 1 3 = some [a, b] := by
        unfold sub?
        rw [if_pos (by simp only [List.length_cons]; omega)]; rfl
      have hb : (isH a && isH b) = false := hb
      rw [if_neg (by simp only [List.length_cons]; simp; omega), hs13]
      simp only [Option.bind_some]
      rw [pu2, hb]; rfl
  · intro a b t hh ih l h
    have hne : decide ((37 : UInt8) :: a :: b :: t ≠ []) = true := by simp
    have hlen3 : ¬ decide ((((37 : UInt8) :: a :: b :: t).length : Int) < 3) = true := by simp only [List.length_cons]; simp; omega
    have hs13 : sub? ((37 : UInt8) :: a :: b :: t) 1 3 = some [a, b] := by
      unfold sub?
      rw [if_pos (by simp only [List.length_cons]; omega)]; rfl
    have ha : hx a < 16 := by simp [isH] at hh; exact hh.1
    have hb2 : hx b < 16 := by simp [isH] at hh; exact hh.2
    simp only [List.length_cons] at h
    have hs : zca ((37 : UInt8) :: a :: b :: t) l = some (.inl (t, l ++ [za0.mk ((h2 a b).toNat : Int) false])) := by
      have hs3 : sub? ((37 : UInt8) :: a :: b :: t) 3 (((37 : UInt8) :: a :: b :: t).length : Int) = some t := by
        unfold sub?
        rw [if_pos (by simp only [List.length_cons]; omega), List.take_of_length_le (by simp only [List.length_drop]; omega)]; rfl
      unfold zca
      rw [if_pos hne]
      simp only [List.getElem?_cons_zero, Option.bind_some]
      rw [if_neg (by decide), if_neg hlen3, hs13]
      simp only [Option.bind_some]
      rw [pu2, hh]
      simp only [if_true, Option.bind_some, ne_eq, not_true_eq_false, decide_false, Bool.false_eq_true, if_false]
      rw [if_pos (by omega), hs3]
      first | rfl | (simp only [Option.bind_some]; congr 5; unfold IntKind.wrap h2; simp [IntKind.bits, IntKind.signed])
    rw [zqy (body := fun (q : Bs × (List za0)) => zca q.1 q.2) (s := (37 :: a :: b :: t, l)) hs, ih _ (by simp; omega), zrx, hh, if_pos rfl]
    cases uns t <;> simp [mkU]
  · intro c r hc ih l h
    simp only [List.length_cons] at h
    have hne : decide (c :: r ≠ []) = true := by simp
    have hs : zca (c :: r) l = some (.inl (r, l ++ [za0.mk (c.toNat : Int) true])) := by
      have hs1 : sub? (c :: r) 1 ((c :: r).length : Int) = some r := by
        unfold sub?
        rw [if_pos (by simp only [List.length_cons]; omega), List.take_of_length_le (by simp only [List.length_drop]; omega)]; rfl
      have hcn : (c.toNat : Int) ≠ 37 := fun h => hc (UInt8.toNat_inj.1 (by simp; omega))
      unfold zca
      rw [if_pos hne]
      simp only [List.getElem?_cons_zero, Option.bind_some]
      rw [if_pos (by simpa using hcn), if_pos (by omega), hs1]
      rfl
    rw [zqy (body := fun (q : Bs × (List za0)) => zca q.1 q.2) (s := (c :: r, l)) hs, ih _ (by simp; omega), zqe hc]
    cases uns r <;> simp [mkU]
theorem zvi (s : Bs) (h : s.length ≤ 100000000) : zhn s = some (match uns s with | some u => (u.map mkU, true) | none => ([], false)) := by
  unfold zhn
  have := z7z s [] (by simpa using h)
  simpa using this
end Go.Proofs.YthgblfklceopgaaGreatDoor
