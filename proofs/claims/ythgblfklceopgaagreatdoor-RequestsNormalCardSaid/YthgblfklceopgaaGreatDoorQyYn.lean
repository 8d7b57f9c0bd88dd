/- Plain: queries of both sides, read and written. -/
import Derived.Test.YthgblfklceopgaaGreatDoorUpYn
namespace Go.Proofs.YthgblfklceopgaaGreatDoor
set_option linter.unusedVariables false
set_option maxRecDepth 20000
def vdQ (s : Bs) : Bool := (dec false s).isSome
theorem z4x : ∀ (n : Nat) (s : Bs), s.length ≤ n → (dec true s).isSome = (dec false s).isSome := by
  intro n
  induction n with
  | zero => intro s h; obtain rfl : s = [] := List.length_eq_zero_iff.1 (by omega); rfl
  | succ n ih =>
    intro s h
    rcases s with _ | ⟨c, r⟩
    · rfl
    simp only [List.length_cons] at h
    by_cases hc : c = 37
    · subst hc
      rcases r with _ | ⟨a, _ | ⟨b, t⟩⟩
      · rfl
      · rfl
      · simp only [List.length_cons] at h
        rw [zk1, zk1]
        split
        · rw [Option.isSome_map, Option.isSome_map]; exact ih t (by omega)
        · rfl
    · rw [zk6 _ hc, zk6 _ hc, Option.isSome_map, Option.isSome_map]; exact ih r (by omega)
theorem z2r (c : UInt8) (hc : c ≠ 37) (hh : isH c = false) (b : Bs) : ∀ (n : Nat) (a : Bs), a.length ≤ n → vdQ (a ++ c :: b) = (vdQ a && vdQ b) := by
  intro n
  unfold vdQ
  induction n with
  | zero =>
    intro a h
    obtain rfl : a = [] := List.length_eq_zero_iff.1 (by omega)
    rw [List.nil_append, zk6 _ hc, Option.isSome_map]
    rfl
  | succ n ih =>
    intro a h
    rcases a with _ | ⟨x, r⟩
    · rw [List.nil_append, zk6 _ hc, Option.isSome_map]; rfl
    simp only [List.length_cons] at h
    rw [List.cons_append]
    by_cases hx : x = 37
    · subst hx
      rcases r with _ | ⟨y, _ | ⟨z, t⟩⟩
      · rcases b with _ | ⟨b0, b⟩
        · rfl
        · rw [List.nil_append, zk1, hh]; rfl
      · rw [List.cons_append, List.nil_append, zk1, hh, Bool.and_false]; rfl
      · simp only [List.length_cons] at h
        rw [List.cons_append, List.cons_append, zk1, zk1]
        split
        · rw [Option.isSome_map, Option.isSome_map]; exact ih t (by omega)
        · rfl
    · rw [zk6 _ hx, zk6 _ hx, Option.isSome_map, Option.isSome_map]; exact ih r (by omega)
theorem z1e (c : UInt8) : ∀ s : Bs, c ∉ s → spl c s = [s]
  | [], _ => rfl
  | x :: s, h => by
    have h1 : x ≠ c := fun e => h (by simp [e])
    have h2 := z1e c s (fun e => h (by simp [e]))
    unfold spl
    rw [if_neg h1, h2]
theorem z1f (c : UInt8) (q : Bs) : ∀ p : Bs, c ∉ p → spl c (p ++ c :: q) = p :: spl c q
  | [], _ => by
    rw [List.nil_append]
    conv => lhs; unfold spl
    rw [if_pos rfl]
  | x :: p, h => by
    have h1 : x ≠ c := fun e => h (by simp [e])
    have h2 := z1f c q p (fun e => h (by simp [e]))
    rw [List.cons_append]
    conv => lhs; unfold spl
    rw [if_neg h1, h2]
theorem z58 (c : UInt8) (hc : c ≠ 37) (hh : isH c = false) : ∀ (n : Nat) (s : Bs), s.length ≤ n → vdQ s = (spl c s).all vdQ := by
  intro n
  induction n with
  | zero => intro s h; obtain rfl : s = [] := List.length_eq_zero_iff.1 (by omega); rfl
  | succ n ih =>
    intro s h
    rcases zpf c s with h1 | ⟨p, q, rfl, h1⟩
    · rw [z1e c s h1]; simp
    · rw [z1f c q p h1, z2r c hc hh q p.length p (Nat.le_refl _), List.all_cons, ih q (by simp at h; omega)]
def rep (s : Bs) : Bs := s.flatMap fun c => if c = 43 then [37, 50, 48] else [c]
theorem z1p : ∀ s : Bs, (43 : UInt8) ∉ s → rep s = s
  | [], _ => rfl
  | x :: s, h => by
    have h1 : x ≠ 43 := fun e => h (by simp [e])
    have h2 := z1p s (fun e => h (by simp [e]))
    unfold rep at h2 ⊢
    rw [List.flatMap_cons, if_neg h1, h2]; rfl
theorem z1q (p q : Bs) : rep (p ++ q) = rep p ++ rep q := by unfold rep; rw [List.flatMap_append]
theorem zpn (c : UInt8) (s : Bs) : rep (c :: s) = (if c = 43 then [37, 50, 48] else [c]) ++ rep s := by unfold rep; rw [List.flatMap_cons]
theorem repK : ∀ (n : Nat) (s : Bs), s.length ≤ n → Lib.replaceK [43] [37, 50, 48] (Lib.count s [43]) s = rep s := by
  intro n
  induction n with
  | zero => intro s h; obtain rfl : s = [] := List.length_eq_zero_iff.1 (by omega); rw [Lib.count_miss (by rfl)]; rfl
  | succ n ih =>
    intro s h
    rcases zpf 43 s with h1 | ⟨p, q, rfl, h1⟩
    · rw [Lib.count_miss (z2a 43 s h1), z1p s h1]; rfl
    · have hi := zym 43 q p h1
      have hd : (p ++ 43 :: q).drop (p.length + 1) = q := by rw [← List.drop_drop]; simp
      rw [Lib.count_hit (by simp) hi, Nat.add_comm 1, Lib.replaceK_hit _ _ _ _ _ hi]
      simp only [List.length_cons, List.length_nil, Nat.zero_add]
      rw [hd, ih q (by simp at h; omega), z1q, zpn, z1p p h1]
      simp
theorem zvx (s : Bs) : Lib.replaceAll s [43] [37, 50, 48] = rep s := by
  unfold Lib.replaceAll Lib.replace Lib.replaceNum
  rw [if_neg (by decide), if_pos (.inl (by decide))]
  exact repK s.length s (Nat.le_refl _)
theorem zx6 (s : Bs) : (rep s).length ≤ 3 * s.length := by
  induction s with
  | nil => simp [rep]
  | cons c s ih =>
    rw [zpn, List.length_append, List.length_cons]
    have : (if c = (43 : UInt8) then ([37, 50, 48] : Bs) else [c]).length ≤ 3 := by split <;> simp
    omega
theorem zw5 (s : Bs) (h : (61 : UInt8) ∉ s) : (61 : UInt8) ∉ rep s := by
  unfold rep
  rw [List.mem_flatMap]
  rintro ⟨c, hc, hm⟩
  split at hm
  · simp at hm
  · have : 61 = c := by simpa using hm
    exact h (this ▸ hc)
theorem z2s : ∀ (n : Nat) (s : Bs), s.length ≤ n → vdQ s = true → dec false (rep s) = dec true s := by
  intro n
  unfold vdQ
  induction n with
  | zero => intro s h _; obtain rfl : s = [] := List.length_eq_zero_iff.1 (by omega); rfl
  | succ n ih =>
    intro s h hv
    rcases s with _ | ⟨c, r⟩
    · rfl
    simp only [List.length_cons] at h
    by_cases hc : c = 37
    · subst hc
      rcases r with _ | ⟨a, _ | ⟨b, t⟩⟩
      · cases hv
      · cases hv
      · simp only [List.length_cons] at h
        rw [zk1] at hv
        cases hh : isH a && isH b
        · rw [hh] at hv; cases hv
        · rw [hh] at hv
          simp only [if_true, Option.isSome_map] at hv
          have ha : a ≠ 43 := fun e => by rw [e] at hh; exact absurd hh (by simp [isH, hx])
          have hb : b ≠ 43 := fun e => by rw [e] at hh; exact absurd hh (by simp [isH, hx])
          rw [zpn, zpn, zpn, if_neg (by decide), if_neg ha, if_neg hb]
          simp only [List.cons_append, List.nil_append]
          rw [zk1, zk1, hh, ih t (by omega) hv]
    · rw [zk6 _ hc, Option.isSome_map] at hv
      rw [zpn, zk6 _ hc]
      by_cases h43 : c = 43
      · rw [if_pos h43]
        simp only [List.cons_append, List.nil_append]
        rw [zk1, ih r (by omega) hv]
        have e1 : (isH 50 && isH 48) = true := by decide
        have e2 : h2 50 48 = pl true c := by rw [h43]; decide
        rw [e1, e2]; rfl
      · rw [if_neg h43]
        simp only [List.cons_append, List.nil_append]
        rw [zk6 _ hc, ih r (by omega) hv]
        have : pl false c = pl true c := by unfold pl; rw [if_neg (by simp), if_neg (by simp [h43])]
        rw [this]
theorem zxj (s : Bs) (h : s.length ≤ 1000000) : zg9 s = some ((dec false s).getD []) := z0o s (by omega)
theorem z0w (s : Bs) (h : s.length ≤ 1000000) : ∃ us, zhn s = some (us, vdQ s) := by
  rw [zvi s (by omega)]
  unfold vdQ
  rw [z2q]
  cases uns s with
  | none => exact ⟨_, rfl⟩
  | some u => exact ⟨_, rfl⟩
def prQ (x : Bs) : zag := ⟨(dec true (Lib.cut x [61]).1).getD [], (dec true (Lib.cut x [61]).2.1).getD []⟩
theorem zwg (x : Bs) : (Lib.cut x [61]).1.length ≤ x.length ∧ (Lib.cut x [61]).2.1.length ≤ x.length := by
  rcases zpf 61 x with h | ⟨p, q, rfl, h⟩
  · rw [zzu 61 x h]; simp
  · rw [zwf 61 p q h]; simp; omega
theorem z2u (x : Bs) : vdQ x = (vdQ (Lib.cut x [61]).1 && vdQ (Lib.cut x [61]).2.1) := by
  rcases zpf 61 x with h | ⟨p, q, rfl, h⟩
  · rw [zzu 61 x h]
    simp [vdQ, dec]
  · rw [zwf 61 p q h, z2r 61 (by decide) (by decide) q p.length p (Nat.le_refl _)]
theorem z8p (s : Bs) (h : s.length ≤ 1000000) : zh8 s true = some ((dec true s).getD [], vdQ s) := by
  rw [z0l s true (by omega)]
  unfold vdQ
  rw [← z4x s.length s (Nat.le_refl _)]
  cases dec true s <;> rfl
theorem z9a (k : Nat) (x : Bs) (l : List zag) (hx : x.length ≤ 100000) (hl : l.length + 1 ≤ 1000000000) : zfd k x l = if x = [] then some (.inl l) else if vdQ x = true then some (.inl (l ++ [prQ x])) else some (.inr ([], 9)) := by
  obtain ⟨c1, c2⟩ := zwg x
  unfold zfd zgj
  by_cases h0 : x = []
  · rw [if_pos (by simpa using h0), if_pos h0]
  · rw [if_neg (by simpa using h0), if_neg h0]
    unfold zga
    rw [if_pos (by omega)]
    simp only [Option.bind_some]
    rw [z8p _ (by omega)]
    simp only [Option.bind_some]
    rw [z8p _ (by omega)]
    simp only [Option.bind_some]
    rw [z2u x]
    cases vdQ (Lib.cut x [61]).1 <;> cases vdQ (Lib.cut x [61]).2.1 <;> simp [prQ, hl]
theorem z89 (k : Nat) (x : Bs) (l : List zag) (hx : x.length ≤ 100000) (hv : vdQ x = true) (hl : l.length + 1 ≤ 1000000000) : zgf k x l = if x = [] then some (.inl l) else some (.inl (l ++ [prQ x])) := by
  obtain ⟨c1, c2⟩ := zwg x
  have hv2 := z2u x
  rw [hv] at hv2
  have hv2 := (Bool.and_eq_true _ _).mp hv2.symm
  have hcut : Lib.cut (rep x) [61] = (rep (Lib.cut x [61]).1, rep (Lib.cut x [61]).2.1, (Lib.cut x [61]).2.2) := by
    rcases zpf 61 x with h | ⟨p, q, rfl, h⟩
    · rw [zzu 61 x h, zzu 61 _ (zw5 x h)]; rfl
    · rw [zwf 61 p q h, z1q, zpn, if_neg (by decide)]
      exact zwf 61 _ _ (zw5 p h)
  unfold zgf zie
  by_cases h0 : x = []
  · rw [if_pos (by simpa using h0), if_pos h0]
  · rw [if_neg (by simpa using h0), if_neg h0]
    have hr := zx6 x
    have hr1 := zx6 (Lib.cut x [61]).1
    have hr2 := zx6 (Lib.cut x [61]).2.1
    unfold zkb
    rw [if_pos (by simp; omega), zvx]
    simp only [Option.bind_some]
    unfold zga
    rw [if_pos (by omega), hcut]
    simp only [Option.bind_some]
    rw [zxj _ (by omega)]
    simp only [Option.bind_some]
    rw [zxj _ (by omega)]
    simp only [Option.bind_some]
    rw [if_pos hl, z2s _ _ (Nat.le_refl _) hv2.1, z2s _ _ (Nat.le_refl _) hv2.2]
    rfl
def prs (xs : List Bs) : List zag := (xs.filter fun x => !decide (x = [])).map prQ
theorem z7a : ∀ (xs : List Bs) (k : Nat) (l : List zag), (∀ x, x ∈ xs → x.length ≤ 100000) → l.length + xs.length ≤ 1000000 → forL (fun (k : Nat) (x : Bs) (s : (List zag)) => zfd k x s) (fun (s : (List zag)) => zdz s) k xs l = if xs.all vdQ = true then zdz (l ++ prs xs) else some ([], 9)
  | [], k, l, _, _ => by simp [forL, prs]
  | x :: xs, k, l, hx, hl => by
    simp only [List.length_cons] at hl
    show (zfd k x l).bind _ = _
    rw [z9a k x l (hx x (by simp)) (by omega)]
    by_cases h0 : x = []
    · subst h0
      rw [if_pos rfl]
      simp only [Option.bind_some, after]
      rw [z7a xs (k + 1) l (fun y hy => hx y (by simp [hy])) (by omega)]
      simp [prs, vdQ, dec]
    · rw [if_neg h0]
      cases hv : vdQ x
      · simp [hv, after]
      · simp only [if_true, Option.bind_some, after]
        rw [z7a xs (k + 1) _ (fun y hy => hx y (by simp [hy])) (by simp; omega)]
        simp [prs, hv, h0]
theorem z69 : ∀ (xs : List Bs) (k : Nat) (l : List zag), (∀ x, x ∈ xs → x.length ≤ 100000 ∧ vdQ x = true) → l.length + xs.length ≤ 1000000 → forL (fun (k : Nat) (x : Bs) (s : (List zag)) => zgf k x s) (fun (s : (List zag)) => zif s) k xs l = zif (l ++ prs xs)
  | [], k, l, _, _ => by simp [forL, prs]
  | x :: xs, k, l, hx, hl => by
    simp only [List.length_cons] at hl
    obtain ⟨h1, h2⟩ := hx x (by simp)
    show (zgf k x l).bind _ = _
    rw [z89 k x l h1 h2 (by omega)]
    by_cases h0 : x = []
    · subst h0
      rw [if_pos rfl]
      simp only [Option.bind_some, after]
      rw [z69 xs (k + 1) l (fun y hy => hx y (by simp [hy])) (by omega)]
      simp [prs]
    · rw [if_neg h0]
      simp only [Option.bind_some, after]
      rw [z69 xs (k + 1) _ (fun y hy => hx y (by simp [hy])) (by simp; omega)]
      simp [prs, h0]
theorem z3c (s : Bs) (h : s.length ≤ 100000) : ∃ b, zev s 33 = some b := by
  have : Ok (zev s 33) fun _ => True := by
    unfold zev
    refine ok_g (by omega) (zye (fun _ _ => True) s 0 () trivial (fun j x u _ _ _ => ?_) (fun _ _ => ⟨_, rfl, trivial⟩))
    unfold zk0 zic
    refine zmf (fun _ => zmf (fun _ => zbs trivial) (fun _ => zbs trivial)) (fun _ => zmf (fun _ => zbs trivial) (fun _ => zbs trivial))
  obtain ⟨b, h1, _⟩ := this
  exact ⟨b, h1⟩
theorem z4e (s : Bs) (h : s.length ≤ 100000) : Ok (zej s) fun r => zhb s = some r ∧ r.1.length ≤ 1000 ∧ (r.2 = 0 → r.1 = prs (spl 38 s) ∧ r.1.length ≤ 100 ∧ s.length ≤ 1000) := by
  obtain ⟨b, hb⟩ := z3c s h
  have hr : zfr s 33 126 = some b := hb
  have hc : zf1 s [35] = some (Lib.contains s [35]) := by unfold zf1; rw [if_pos (by omega)]
  have hbad : zcd s = some 3 → zce s = some false → Ok (zej s) fun r => zhb s = some r ∧ r.1.length ≤ 1000 ∧ (r.2 = 0 → r.1 = prs (spl 38 s) ∧ r.1.length ≤ 100 ∧ s.length ≤ 1000) := fun h1 h2 => by
    refine ⟨([], 3), ?_, ?_, by simp, fun h => by cases h⟩
    · unfold zej; rw [h1]; rfl
    · unfold zhb; rw [h2]; rfl
  by_cases hl : s.length ≤ 1000
  · have e1 : ¬ decide (1000 < (s.length : Int)) = true := by simp; omega
    have e2 : decide ((s.length : Int) ≤ 1000) = true := by simp; omega
    cases hbv : b
    · refine hbad ?_ ?_
      · unfold zcd zcg; rw [if_neg e1, hr, hbv]; rfl
      · unfold zce zci; rw [if_pos e2, hb, hbv]; rfl
    · cases hcv : Lib.contains s [35]
      · have f1 : zcd s = some 0 := by unfold zcd zcg; rw [if_neg e1, hr, hbv, hc, hcv]; rfl
        have f2 : zce s = some true := by unfold zce zci; rw [if_pos e2, hb, hbv, hc, hcv]; rfl
        obtain ⟨us, hu⟩ := z0w s (by omega)
        have hsp : zb8 s [38] = some (spl 38 s) := by
          unfold zb8
          rw [if_pos ⟨by omega, by simp⟩, zo3]
        have hsl := zvt 38 s
        have hpc : ∀ x, x ∈ spl 38 s → x.length ≤ 100000 := fun x hx => by have := zqj 38 s x hx; omega
        have hv := z58 38 (by decide) (by decide) s.length s (Nat.le_refl _)
        have hP : zej s = if (spl 38 s).all vdQ = true then zdz (prs (spl 38 s)) else some ([], 9) := by
          unfold zej
          rw [f1]
          simp only [Option.bind_some, ne_eq, not_true_eq_false, decide_false, Bool.false_eq_true, if_false, hsp]
          rw [if_pos (by omega), z7a _ 0 [] hpc (by simp only [List.length_nil]; omega), List.nil_append]
        rw [hP]
        unfold zhb
        rw [f2]
        simp only [Option.bind_some, Bool.not_true, Bool.false_eq_true, if_false, hu, hsp]
        cases hvs : vdQ s
        · rw [← hv, hvs]
          exact ⟨([], 9), rfl, rfl, by simp, fun h => by cases h⟩
        · rw [← hv, hvs]
          have hall : ∀ x, x ∈ spl 38 s → x.length ≤ 100000 ∧ vdQ x = true := fun x hx => ⟨hpc x hx, List.all_eq_true.1 (by rw [← hv, hvs]) x hx⟩
          simp only [Bool.not_true, Bool.false_eq_true, if_false, if_true]
          rw [if_pos (by omega), z69 _ 0 [] hall (by simp only [List.length_nil]; omega), List.nil_append]
          have hEE : zif (prs (spl 38 s)) = zdz (prs (spl 38 s)) := rfl
          rw [hEE]
          unfold zdz
          refine zmf (fun h1 => ⟨_, rfl, ?_, by simp, fun h => by cases h⟩) (fun h1 => ⟨_, rfl, ?_, ?_, fun _ => ⟨rfl, ?_, hl⟩⟩)
          · rw [if_pos h1]
          · rw [if_neg h1]
          · have h1 : ¬ 100 < ((prs (spl 38 s)).length : Int) := by simpa using h1
            simp only; omega
          · have h1 : ¬ 100 < ((prs (spl 38 s)).length : Int) := by simpa using h1
            simp only; omega
      · refine hbad ?_ ?_
        · unfold zcd zcg; rw [if_neg e1, hr, hbv, hc, hcv]; rfl
        · unfold zce zci; rw [if_pos e2, hb, hbv, hc, hcv]; rfl
  · refine hbad ?_ ?_
    · unfold zcd zcg; rw [if_pos (by simp; omega)]; rfl
    · unfold zce zci; rw [if_neg (by simp; omega)]; try rfl

noncomputable def frQ (c : UInt8) : Bool := decide (zfp (c.toNat : Int) = some true)
noncomputable def pcQ (c : UInt8) : Bs := (zef (c.toNat : Int)).getD []
noncomputable def qcQ (c : UInt8) : Bs := if c.toNat = 32 then [43] else if frQ c then [c] else pcQ c
theorem z7k (c : UInt8) : zfp (c.toNat : Int) = some (frQ c) := by
  have := zn9 (fun c => decide (zfp (c.toNat : Int) = some (frQ c))) (by decide +kernel) c
  exact of_decide_eq_true this
theorem zvy (c : UInt8) : zef (c.toNat : Int) = some (pcQ c) ∧ (pcQ c).length = 3 := by
  have := zn9 (fun c => decide (zef (c.toNat : Int) = some (pcQ c) ∧ (pcQ c).length = 3)) (by decide +kernel) c
  exact of_decide_eq_true this
theorem z4y (c : UInt8) : zho (c.toNat : Int) = some (pcQ c) := by
  have := zn9 (fun c => decide (zho (c.toNat : Int) = some (pcQ c))) (by decide +kernel) c
  exact of_decide_eq_true this
theorem z4h (c : UInt8) : (decide (0 ≤ Lib.indexByte [97, 98, 99, 100, 101, 102, 103, 104, 105, 106, 107, 108, 109, 110, 111, 112, 113, 114, 115, 116, 117, 118, 119, 120, 121, 122, 65, 66, 67, 68, 69, 70, 71, 72, 73, 74, 75, 76, 77, 78, 79, 80, 81, 82, 83, 84, 85, 86, 87, 88, 89, 90, 48, 49, 50, 51, 52, 53, 54, 55, 56, 57, 45, 46, 95, 126] c)) = frQ c := by
  have := zn9 (fun c => (decide (0 ≤ Lib.indexByte [97, 98, 99, 100, 101, 102, 103, 104, 105, 106, 107, 108, 109, 110, 111, 112, 113, 114, 115, 116, 117, 118, 119, 120, 121, 122, 65, 66, 67, 68, 69, 70, 71, 72, 73, 74, 75, 76, 77, 78, 79, 80, 81, 82, 83, 84, 85, 86, 87, 88, 89, 90, 48, 49, 50, 51, 52, 53, 54, 55, 56, 57, 45, 46, 95, 126] c)) == frQ c) (by decide +kernel) c
  simpa using this
noncomputable def qwQ (s : Bs) : Bs := s.flatMap qcQ
theorem z1t (c : UInt8) : (qcQ c).length ≤ 3 := by
  unfold qcQ
  split
  · simp
  · split
    · simp
    · rw [(zvy c).2]; exact Nat.le_refl _
theorem z5s (s : Bs) : (qwQ s).length ≤ 3 * s.length := by
  induction s with
  | nil => simp [qwQ]
  | cons c s ih =>
    unfold qwQ at ih ⊢
    have := z1t c
    rw [List.flatMap_cons, List.length_append, List.length_cons]
    omega
theorem z8y (k : Nat) (c : UInt8) (x : Bs) (hl : x.length + 3 ≤ 1000000000) : zfx k c (zdv x) = some (.inl (zdv (x ++ qcQ c))) := by
  have hn : (zdv x).length + 1 ≤ 1000000000 := by rw [zn3]; omega
  unfold zfx zfy qcQ
  by_cases h0 : c.toNat = 32
  · have : decide ((c.toNat : Int) = 32) = true := by simp; omega
    rw [if_pos this, if_pos h0, zxr _ _ hn]
    simp only [Option.bind_some, zlq]; rfl
  · have : ¬ decide ((c.toNat : Int) = 32) = true := by simp; omega
    rw [if_neg this, if_neg h0, z7k]
    simp only [Option.bind_some]
    cases frQ c
    · simp only [Bool.false_eq_true, if_false]
      rw [(zvy c).1]
      simp only [Option.bind_some]
      unfold zdb
      rw [if_pos (by rw [zn3, (zvy c).2]; omega)]
      simp only [Option.bind_some, zlq]
    · simp only [if_true]
      rw [zxr _ _ hn]
      simp only [Option.bind_some, zlq]; rfl
theorem z8x (k : Nat) (c : UInt8) (x : Bs) (hl : x.length + 3 ≤ 1000000000) : zfn k c (zdv x) = some (.inl (zdv (x ++ qcQ c))) := by
  have hn : (zdv x).length + 1 ≤ 1000000000 := by rw [zn3]; omega
  unfold zfn zfo qcQ
  by_cases h0 : c.toNat = 32
  · have : decide ((c.toNat : Int) = 32) = true := by simp; omega
    rw [if_pos this, if_pos h0, if_pos hn]
    rw [zlq]; rfl
  · have : ¬ decide ((c.toNat : Int) = 32) = true := by simp; omega
    rw [if_neg this, if_neg h0]
    unfold zgb
    simp only [Option.bind_some]
    have e1 : ((c.toNat : Int)).toNat.toUInt8 = c := by simp
    rw [e1, z4h]
    cases frQ c
    · simp only [Bool.false_eq_true, if_false]
      rw [z4y]
      simp only [Option.bind_some]
      rw [if_pos (by rw [zn3, (zvy c).2]; omega), zlq]
    · simp only [if_true]
      rw [if_pos hn, zlq]; rfl
theorem z5b : ∀ (s : Bs) (k : Nat) (x : Bs), x.length + 3 * s.length ≤ 1000000000 → forL (fun (k : Nat) (x : UInt8) (s : (List Int)) => zfx k x s) (fun (s : (List Int)) => zhi s) k s (zdv x) = some (x ++ qwQ s)
  | [], k, x, h => by
    show zhi (zdv x) = _
    unfold zhi
    rw [if_pos (zwh x), zn7]; simp [qwQ]
  | c :: s, k, x, h => by
    simp only [List.length_cons] at h
    have := z1t c
    show (zfx k c (zdv x)).bind _ = _
    rw [z8y k c x (by omega)]
    simp only [Option.bind_some, after]
    rw [z5b s (k + 1) _ (by simp; omega)]
    simp [qwQ]
theorem z5a : ∀ (s : Bs) (k : Nat) (x : Bs), x.length + 3 * s.length ≤ 1000000000 → forL (fun (k : Nat) (x : UInt8) (s : (List Int)) => zfn k x s) (fun (s : (List Int)) => zgu s) k s (zdv x) = some (x ++ qwQ s)
  | [], k, x, h => by
    show zgu (zdv x) = _
    unfold zgu
    rw [zn7]; simp [qwQ]
  | c :: s, k, x, h => by
    simp only [List.length_cons] at h
    have := z1t c
    show (zfn k c (zdv x)).bind _ = _
    rw [z8x k c x (by omega)]
    simp only [Option.bind_some, after]
    rw [z5a s (k + 1) _ (by simp; omega)]
    simp [qwQ]
theorem zvf (s : Bs) (h : s.length ≤ 100000) : zh5 s = some (qwQ s) ∧ zhk s = some (qwQ s) := by
  constructor
  · unfold zh5
    rw [if_pos (by omega)]
    exact z5b s 0 [] (by simp only [List.length_nil]; omega)
  · unfold zhk
    rw [if_pos (by omega)]
    exact z5a s 0 [] (by simp only [List.length_nil]; omega)
theorem z6f (l : List zag) (hl : l.length ≤ 1000) (hp : ∀ p, p ∈ l → p.Name.length ≤ 1000 ∧ p.Value.length ≤ 1000) : Ok (zfi l) fun r => zhl l = some r := by
  have hsame : zhl l = zfi l := by
    unfold zfi zhl
    split
    · rfl
    · split
      · refine zsv (fun _ => rfl) l 0 [] fun j x s _ hj => ?_
        obtain ⟨h1, h2⟩ := hp x (List.mem_of_getElem? hj)
        have h3 := zvf x.Name (by omega)
        have h4 := zvf x.Value (by omega)
        unfold zi6 zj3
        rw [h3.1, h3.2, h4.1, h4.2]
        have hc : ((x.Name == []) && ((x.Value == []) && true)) = ((decide (x.Name = [])) && (decide (x.Value = []))) := by
          rw [Bool.and_true]
          rcases x with ⟨a, b⟩
          cases a <;> cases b <;> rfl
        rw [hc]
      · rfl
  rw [hsame]
  have : Ok (zfi l) fun _ => True := by
    unfold zfi
    refine zmf (fun _ => zbs trivial) (fun _ => ok_g (by omega) ?_)
    refine zye (fun j (s : List Bs) => s.length ≤ j ∧ ∀ y, y ∈ s → y.length ≤ 10000) l 0 [] ⟨by simp, by simp⟩ (fun j x s _ hj hI => ?_) (fun s hI => ?_)
    · obtain ⟨h1, h2⟩ := hp x (List.mem_of_getElem? hj)
      have hjl := zue hj
      have q1 := z5s x.Name
      have q2 := z5s x.Value
      unfold zi6
      rw [(zvf x.Name (by omega)).1, (zvf x.Value (by omega)).1]
      refine zmf (fun _ => zbs trivial) (fun _ => ?_)
      simp only [Option.bind_some]
      refine ok_g (by simp; omega) (ok_g (by simp; omega) (ok_g (by omega) (zbs ?_)))
      refine ⟨by simp; omega, fun y hy => ?_⟩
      rcases List.mem_append.1 hy with h | h
      · exact hI.2 y h
      · have : y = (qwQ x.Name ++ [61]) ++ qwQ x.Value := by simpa using h
        rw [this]; simp; omega
    · have hj := zv8 10000 [38] s hI.2
      have hs : s.length ≤ 1000 := by omega
      have hm : s.length * (10000 + ([38] : Bs).length) ≤ 1000 * 10001 := Nat.mul_le_mul hs (by simp)
      unfold zj9
      have hJ : zc5 s [38] = some (Lib.join s [38]) := by
        unfold zc5
        rw [if_pos ⟨by omega, by omega⟩]
      rw [hJ]
      simp only [Option.bind_some]
      exact zmf (fun _ => zbs trivial) (fun _ => zbs trivial)
  obtain ⟨r, h1, _⟩ := this
  exact ⟨r, h1, h1⟩

end Go.Proofs.YthgblfklceopgaaGreatDoor
