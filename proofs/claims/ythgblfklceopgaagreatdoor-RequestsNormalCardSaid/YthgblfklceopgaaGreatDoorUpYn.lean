/- Plain: paths: the program goes from the first segment on, the reference from the last one back; they find the same. -/
import Derived.Test.YthgblfklceopgaaGreatDoorUnYn
namespace Go.Proofs.YthgblfklceopgaaGreatDoor
set_option linter.unusedVariables false
set_option maxRecDepth 20000
def sg1 (st : List Bs) (x : Bs) : List Bs := if x = [46] then st else if x = [46, 46] then st.dropLast else st ++ [x]
def sgL (st : List Bs) (x : Bs) : List Bs := if x = [46] then st ++ [[]] else if x = [46, 46] then st.dropLast ++ [[]] else st ++ [x]
def fwS : List Bs → List Bs → List Bs
  | st, [] => st
  | st, [x] => sgL st x
  | st, x :: y :: l => fwS (sg1 st x) (y :: l)
def bkS : List Bs → Nat → List Bs → List Bs
  | [], _, out => out
  | x :: r, k, out => if x = [46] then bkS r k out else if x = [46, 46] then bkS r (k + 1) out else if 0 < k then bkS r (k - 1) out else bkS r 0 (out ++ [x])
def bkF (x : Bs) (r : List Bs) : List Bs := if x = [46] then bkS r 0 [[]] else if x = [46, 46] then bkS r 1 [[]] else bkS r 0 [x]
theorem z2i : ∀ (p : List Bs) (x : Bs) (st : List Bs), fwS st (p ++ [x]) = sgL (p.foldl sg1 st) x
  | [], x, st => rfl
  | [y], x, st => rfl
  | y :: z :: p, x, st => z2i (z :: p) x (sg1 st y)
theorem zzv : ∀ (r : List Bs) (k : Nat) (out : List Bs), bkS r k out = out ++ ((r.reverse.foldl sg1 []).take ((r.reverse.foldl sg1 []).length - k)).reverse
  | [], k, out => by simp [bkS]
  | x :: r, k, out => by
    have e : (x :: r).reverse.foldl sg1 [] = sg1 (r.reverse.foldl sg1 []) x := by simp [List.foldl_append]
    rw [e]
    generalize hF : r.reverse.foldl sg1 [] = F
    have ih := fun k out => zzv r k out
    simp only [hF] at ih
    unfold bkS sg1
    by_cases h1 : x = [46]
    · rw [if_pos h1, if_pos h1, ih]
    · rw [if_neg h1, if_neg h1]
      by_cases h2 : x = [46, 46]
      · rw [if_pos h2, if_pos h2, ih, List.dropLast_eq_take, List.length_take, List.take_take]
        congr 3
        omega
      · rw [if_neg h2, if_neg h2]
        by_cases h3 : 0 < k
        · rw [if_pos h3, ih]
          congr 2
          rw [List.length_append, List.length_singleton, List.take_append_of_le_length (by omega)]
          congr 1; omega
        · rw [if_neg h3, ih]
          obtain rfl : k = 0 := by omega
          rw [Nat.sub_zero, Nat.sub_zero, List.take_length, List.take_length]
          simp
theorem z8r (p : List Bs) (x : Bs) : (bkF x p.reverse).reverse = fwS [] (p ++ [x]) := by
  rw [z2i]
  unfold bkF sgL
  split
  · rw [zzv]; simp
  · split
    · rw [zzv]; simp [List.dropLast_eq_take]
    · rw [zzv]; simp
theorem z6q {st : List Bs} {x y : Bs} (h : y ∈ sg1 st x) : y ∈ st ∨ y = x := by
  unfold sg1 at h
  split at h
  · exact .inl h
  · split at h
    · exact .inl (List.dropLast_subset _ h)
    · rcases List.mem_append.1 h with h | h
      · exact .inl h
      · exact .inr (by simpa using h)
theorem z6o {st : List Bs} {x y : Bs} (h : y ∈ sgL st x) : y ∈ st ∨ y = x ∨ y = [] := by
  unfold sgL at h
  split at h
  · rcases List.mem_append.1 h with h | h
    · exact .inl h
    · exact .inr (.inr (by simpa using h))
  · split at h
    · rcases List.mem_append.1 h with h | h
      · exact .inl (List.dropLast_subset _ h)
      · exact .inr (.inr (by simpa using h))
    · rcases List.mem_append.1 h with h | h
      · exact .inl h
      · exact .inr (.inl (by simpa using h))
theorem z1h (st : List Bs) (x : Bs) : (sg1 st x).length ≤ st.length + 1 := by
  unfold sg1
  split
  · omega
  · split
    · simp; omega
    · simp
theorem z6p (st : List Bs) (x : Bs) : (sgL st x).length ≤ st.length + 1 := by
  unfold sgL
  split
  · simp
  · split
    · simp
    · simp
theorem z2g {B : Nat} : ∀ (l st : List Bs), (∀ y, y ∈ st → y.length ≤ B) → (∀ y, y ∈ l → y.length ≤ B) → ∀ y, y ∈ fwS st l → y.length ≤ B
  | [], st, h1, _, y, h => h1 y h
  | [x], st, h1, h2, y, h => by
    rcases z6o h with h | rfl | rfl
    · exact h1 y h
    · exact h2 y (by simp)
    · simp
  | x :: z :: l, st, h1, h2, y, h => by
    refine z2g (z :: l) (sg1 st x) (fun y h => ?_) (fun y h => h2 y (by simp at h ⊢; exact .inr h)) y h
    rcases z6q h with h | rfl
    · exact h1 y h
    · exact h2 y (by simp)
theorem z2h : ∀ (l st : List Bs), (fwS st l).length ≤ st.length + l.length
  | [], st => by simp [fwS]
  | [x], st => z6p st x
  | x :: z :: l, st => by
    have h1 := z2h (z :: l) (sg1 st x)
    have h2 := z1h st x
    show (fwS (sg1 st x) (z :: l)).length ≤ _
    simp only [List.length_cons] at h1 ⊢
    omega
noncomputable def frU (c : UInt8) : Bool := decide (zfp (c.toNat : Int) = some true)
noncomputable def pcU (c : UInt8) : Bs := (zef (c.toNat : Int)).getD []
theorem z3e (c : UInt8) : zfp (c.toNat : Int) = some (frU c) := by
  have := zn9 (fun c => decide (zfp (c.toNat : Int) = some (frU c))) (by decide +kernel) c
  exact of_decide_eq_true this
theorem zrw (c : UInt8) : zef (c.toNat : Int) = some (pcU c) ∧ (pcU c).length = 3 := by
  have := zn9 (fun c => decide (zef (c.toNat : Int) = some (pcU c) ∧ (pcU c).length = 3)) (by decide +kernel) c
  exact of_decide_eq_true this
theorem z0y (c : UInt8) : zho (c.toNat : Int) = some (pcU c) := by
  have := zn9 (fun c => decide (zho (c.toNat : Int) = some (pcU c))) (by decide +kernel) c
  exact of_decide_eq_true this
abbrev plL : Bs := [97, 98, 99, 100, 101, 102, 103, 104, 105, 106, 107, 108, 109, 110, 111, 112, 113, 114, 115, 116, 117, 118, 119, 120, 121, 122, 65, 66, 67, 68, 69, 70, 71, 72, 73, 74, 75, 76, 77, 78, 79, 80, 81, 82, 83, 84, 85, 86, 87, 88, 89, 90, 48, 49, 50, 51, 52, 53, 54, 55, 56, 57, 45, 46, 95, 126]
theorem z3d (c : UInt8) : (encL (IntKind.wrap .i32 (c.toNat : Int))).length ≤ 4 ∧ (((encL (IntKind.wrap .i32 (c.toNat : Int))).all fun d => plL.contains d) && decide ((c.toNat : Int) < 128)) = frU c := by
  have := zn9 (fun c => decide ((encL (IntKind.wrap .i32 (c.toNat : Int))).length ≤ 4 ∧ (((encL (IntKind.wrap .i32 (c.toNat : Int))).all fun d => plL.contains d) && decide ((c.toNat : Int) < 128)) = frU c)) (by decide +kernel) c
  exact of_decide_eq_true this
noncomputable def nU (p : UInt8 × Bool) : Bs := if p.2 || frU p.1 then [p.1] else pcU p.1
noncomputable def nrm (u : List (UInt8 × Bool)) : Bs := u.flatMap nU
theorem z1x (p : UInt8 × Bool) : (nU p).length ≤ 3 := by
  unfold nU
  split
  · simp
  · rw [(zrw p.1).2]; exact Nat.le_refl _
theorem z63 (u : List (UInt8 × Bool)) : (nrm u).length ≤ 3 * u.length := by
  induction u with
  | nil => simp [nrm]
  | cons c s ih =>
    unfold nrm at ih ⊢
    have := z1x c
    rw [List.flatMap_cons, List.length_append, List.length_cons]
    omega
theorem z64 (s : Bs) (hl : s.length ≤ 100000000) : ∀ t : Bs, ∀ (i : Nat) (x : Bs), s.drop i = t → i ≤ s.length → x.length ≤ i →
    iter (fun (q : Int × (List Int)) => zbk s q.1 q.2) ((i : Int), zdv x) = some (match uns t with | some u => (x ++ nrm u, true) | none => ([], false)) := by
  refine zvh ?_ ?_ ?_ ?_
  · intro i x hd hi hx
    have : s.length ≤ i := by simpa using hd
    obtain rfl : i = s.length := by omega
    rw [zne (body := fun (q : Int × (List Int)) => zbk s q.1 q.2) (s := ((s.length : Int), zdv x)) (r := (x, true))]
    · simp [uns, nrm]
    · unfold zbk zhw
      rw [if_neg (by simp), if_pos (zwh x), zn7]; rfl
  · intro r h1 _ hb i x hd hi hx
    obtain ⟨g1, g2⟩ := zq1 hd
    have hu := zuh hd hl
    rw [hb] at hu
    rw [h1]
    refine zne (body := fun (q : Int × (List Int)) => zbk s q.1 q.2) (s := ((i : Int), zdv x)) ?_
    show zbk s (i : Int) (zdv x) = _
    unfold zbk
    rw [if_pos (by simp; omega), g1]
    simp only [Option.bind_some]
    rw [if_neg (by decide), hu]
    rfl
  · intro a b t hh ih i x hd hi hx
    obtain ⟨g1, g2⟩ := zq1 hd
    have g3 := zl6 hd
    have g4 := zl6 (zl6 g3)
    simp only [List.length_cons] at g2
    have hu : zhm s (i : Int) = some (isH a && isH b) := zuh hd hl
    have hun := z0x hd hl hh
    have hlen : (zdv x).length + 1 ≤ 1000000000 := by rw [zn3]; omega
    have hs : zbk s (i : Int) (zdv x) = some (.inl (((i + 3 : Nat) : Int), zdv (x ++ nU (h2 a b, false)))) := by
      unfold zbk zf3 zen
      rw [if_pos (by simp; omega), g1]
      simp only [Option.bind_some]
      rw [if_neg (by decide), hu, hh]
      simp only [Option.bind_some, Bool.not_true, Bool.false_eq_true, if_false, hun, z3e]
      have hw : wr (wr ((i : Int) + 2) + 1) = ((i + 3 : Nat) : Int) := by
        rw [zlh (n := (i : Int) + 2) (by omega), zlh (by omega)]; omega
      rw [hw]
      unfold nU
      cases frU (h2 a b)
      · simp only [Bool.false_eq_true, if_false, Bool.or_false]
        rw [(zrw _).1]
        simp only [Option.bind_some]
        unfold zdb
        rw [if_pos (by rw [zn3, (zrw _).2]; omega)]
        simp only [Option.bind_some, zlq]
      · simp only [if_true, Bool.or_true]
        rw [zxr _ _ hlen]
        simp only [Option.bind_some, zlq]; rfl
    have hn := z1x (h2 a b, false)
    rw [zqy (body := fun (q : Int × (List Int)) => zbk s q.1 q.2) (s := ((i : Int), zdv x)) hs, ih (i + 3) _ g4 (by omega) (by simp; omega), zrx, hh]
    simp only [if_true]
    cases uns t <;> simp [nrm]
  · intro c r hc ih i x hd hi hx
    obtain ⟨g1, g2⟩ := zq1 hd
    have g3 := zl6 hd
    have hlen : (zdv x).length + 1 ≤ 1000000000 := by rw [zn3]; omega
    have hs : zbk s (i : Int) (zdv x) = some (.inl (((i + 1 : Nat) : Int), zdv (x ++ [c]))) := by
      unfold zbk zen
      rw [if_pos (by simp; omega), g1]
      simp only [Option.bind_some]
      rw [if_pos (by
        have : (c.toNat : Int) ≠ 37 := fun h => hc (UInt8.toNat_inj.1 (by simp; omega))
        simpa using this), zxr _ _ hlen]
      have hw : wr ((i : Int) + 1) = ((i + 1 : Nat) : Int) := by rw [zlh (by omega)]; omega
      simp only [Option.bind_some, hw, zlq]; rfl
    rw [zqy (body := fun (q : Int × (List Int)) => zbk s q.1 q.2) (s := ((i : Int), zdv x)) hs, ih (i + 1) _ g3 (by omega) (by simp; omega), zqe hc]
    cases uns r <;> simp [nrm, nU]
theorem zuv (s : Bs) (hl : s.length ≤ 100000000) : zfh s = some (match uns s with | some u => (nrm u, true) | none => ([], false)) := by
  unfold zfh
  have := z64 s hl s 0 [] (by simp) (by omega) (by simp)
  simpa [zdv] using this
theorem z6v (k : Nat) (p : UInt8 × Bool) (v : Bs) (h : v.length ≤ 100000000) : zhf k (mkU p) v = some (.inl (v ++ nU p)) := by
  obtain ⟨c, b⟩ := p
  have e1 : strN [(c.toNat : Int)] = [c] := zn7 [c]
  have hJ : ∀ b : Bool, zez v (mkU (c, false)) b = some (.inl (v ++ if b then [c] else pcU c)) := fun b => by
    unfold zez zhg mkU
    cases b
    · simp only [Bool.false_eq_true, if_false]
      rw [z0y]
      simp only [Option.bind_some]
      rw [if_pos (by rw [(zrw c).2]; omega)]
    · simp only [if_true, e1]
      rw [if_pos (by simp; omega)]
  unfold zhf
  cases b
  · obtain ⟨q1, q2⟩ := z3d c
    have hcf : (mkU (c, false)).c_ = (c.toNat : Int) := rfl
    have hpf : (mkU (c, false)).plain_ = false := rfl
    rw [hpf, hcf]
    simp only [Bool.false_eq_true, if_false]
    rw [z1v _ _ (by omega)]
    simp only [Option.bind_some]
    rw [hJ, hJ]
    unfold nU
    simp only [Bool.false_or]
    rw [← q2]
    cases (encL (IntKind.wrap .i32 (c.toNat : Int))).all fun d => plL.contains d <;> simp
  · have hpf : (mkU (c, true)).plain_ = true := rfl
    rw [hpf]
    simp only [if_true]
    unfold zez zhg mkU
    simp only [if_true, e1]
    rw [if_pos (by simp; omega)]
    simp [nU]
theorem refL (F : Bs → Option (Bs × Int)) : ∀ (u : List (UInt8 × Bool)) (k : Nat) (v : Bs), v.length + 3 * u.length ≤ 100000000 →
    forL (fun (k : Nat) (x : za0) (s : Bs) => zhf k x s) F k (u.map mkU) v = F (v ++ nrm u)
  | [], k, v, h => by simp [nrm, forL]
  | p :: u, k, v, h => by
    simp only [List.length_cons] at h
    have := z1x p
    show (zhf k (mkU p) v).bind _ = _
    rw [z6v k p v (by omega)]
    simp only [Option.bind_some, after]
    rw [refL F u (k + 1) _ (by simp; omega)]
    simp [nrm]
theorem z1r (l : List Bs) (G : List Bs → Option (Bs × Int)) (hl : l.length ≤ 10000000) : ∀ (n c : Nat) (out : List Bs), n < l.length → c + n ≤ 100000000 → out.length + n ≤ 100000000 →
    back (fun (k : Nat) (x : Bs) (s : Int × (List Bs)) => zf2 l k x s.1 s.2) (fun (s : Int × (List Bs)) => G s.2) l n ((c : Int), out) = G (bkS (l.take n).reverse c out)
  | 0, c, out, _, _, _ => by simp [back, bkS]
  | n + 1, c, out, h1, h2, h3 => by
    obtain ⟨x, hx⟩ : ∃ x, l[n]? = some x := ⟨_, List.getElem?_eq_getElem (by omega)⟩
    have e : (l.take (n + 1)).reverse = x :: (l.take n).reverse := by
      rw [List.take_add_one, hx]; simp
    rw [e]
    show (l[n]?).bind _ = _
    rw [hx]
    simp only [Option.bind_some]
    have hk : decide ((n : Int) = wr ((l.length : Int) - 1)) = false := by
      rw [zlh (by omega)]; simp; omega
    unfold bkS zf2 zhh
    rw [hk]
    simp only [Bool.false_eq_true, if_false]
    by_cases x1 : x = [46]
    · have x2 : x ≠ [46, 46] := by rw [x1]; simp
      rw [if_pos (by simp [x1]), if_neg (by simpa using x2), if_pos x1]
      exact z1r l G hl n c out (by omega) (by omega) (by omega)
    · by_cases x2 : x = [46, 46]
      · rw [if_pos (by simp [x2]), if_pos (by simpa using x2), if_neg x1, if_pos x2, zlh (by omega)]
        exact z1r l G hl n (c + 1) out (by omega) (by omega) (by omega)
      · rw [if_neg (by simp [x1, x2]), if_neg x1, if_neg x2]
        by_cases hc : 0 < c
        · rw [if_pos (by simp; omega), if_pos hc, zlh (by omega), show ((c : Int) - 1) = ((c - 1 : Nat) : Int) by omega]
          exact z1r l G hl n (c - 1) out (by omega) (by omega) (by omega)
        · obtain rfl : c = 0 := by omega
          rw [if_neg (by simp), if_neg hc, if_pos (by omega)]
          exact z1r l G hl n 0 (out ++ [x]) (by omega) (by omega) (by simp; omega)
theorem refB (p : List Bs) (x : Bs) (G : List Bs → Option (Bs × Int)) (hl : p.length ≤ 1000000) (n : Nat) (hn : n = p.length + 1) :
    back (fun (k : Nat) (x_1 : Bs) (s : Int × (List Bs)) => zf2 (p ++ [x]) k x_1 s.1 s.2) (fun (s : Int × (List Bs)) => G s.2) (p ++ [x]) n (0, []) = G (bkF x p.reverse) := by
  subst hn
  have e0 : (p ++ [x]).length = p.length + 1 := by simp
  show ((p ++ [x])[p.length]?).bind _ = _
  rw [List.getElem?_append_right (Nat.le_refl _), Nat.sub_self]
  show (zf2 (p ++ [x]) p.length x 0 []).bind _ = _
  have hk : decide ((p.length : Int) = wr (((p ++ [x]).length : Int) - 1)) = true := by
    rw [e0, zlh (by omega)]; simp
  have hB := z1r (p ++ [x]) G (by omega) p.length
  have ht : (p ++ [x]).take p.length = p := by simp
  rw [ht] at hB
  unfold zf2 zhh bkF
  rw [hk]
  simp only [if_true]
  by_cases x1 : x = [46]
  · have x2 : x ≠ [46, 46] := by rw [x1]; simp
    rw [if_pos (by simp [x1]), if_pos (by simp), if_neg (by simpa using x2), if_pos x1]
    exact hB 0 [[]] (by omega) (by omega) (by simp; omega)
  · by_cases x2 : x = [46, 46]
    · rw [if_pos (by simp [x2]), if_pos (by simp), if_pos (by simpa using x2), if_neg x1, if_pos x2, zlh (by omega)]
      exact hB 1 [[]] (by omega) (by omega) (by simp; omega)
    · rw [if_neg (by simp [x1, x2]), if_neg x1, if_neg x2, if_neg (by simp), if_pos (by simp)]
      exact hB 0 [x] (by omega) (by omega) (by simp; omega)
theorem prgL (tot : List Bs) (G : List Bs → Option (Bs × Int)) (ht : tot.length ≤ 1000000) : ∀ (l : List Bs) (k : Nat) (st : List Bs), k + l.length = tot.length → st.length + l.length ≤ 10000000 →
    forL (fun (k : Nat) (x : Bs) (s : (List Bs)) => zfe tot k x s) G k l st = G (fwS st l)
  | [], k, st, _, _ => rfl
  | x :: l, k, st, h1, h2 => by
    simp only [List.length_cons] at h1 h2
    show (zfe tot k x st).bind _ = _
    have hmx : max (wr ((st.length : Int) - 1)) 0 = ((st.length - 1 : Nat) : Int) := by
      rw [zlh (by omega)]; omega
    have hk : decide ((k : Int) = wr ((tot.length : Int) - 1)) = decide (l = []) := by
      rw [zlh (by omega)]
      cases l with
      | nil => simp at h1; simp; omega
      | cons a l => simp at h1; simp; omega
    have hdl : st.take (st.length - 1) = st.dropLast := (List.dropLast_eq_take).symm
    unfold zfe zgk zff
    rw [hmx, hk, Int.toNat_natCast, hdl]
    have hg : (0 : Int) ≤ ((st.length - 1 : Nat) : Int) ∧ ((st.length - 1 : Nat) : Int) ≤ (st.length : Int) := by omega
    match l with
    | [] =>
      simp only [decide_true, if_true]
      show _ = G (sgL st x)
      unfold sgL
      by_cases x1 : x = [46]
      · rw [if_pos (by simpa using x1), if_pos x1, if_pos (by omega)]; rfl
      · by_cases x2 : x = [46, 46]
        · rw [if_neg (by simpa using x1), if_pos (by simpa using x2), if_neg x1, if_pos x2, if_pos hg, if_pos (by simp; omega)]; rfl
        · rw [if_neg (by simpa using x1), if_neg (by simpa using x2), if_neg x1, if_neg x2, if_pos (by omega)]; rfl
    | y :: l =>
      have hn : decide (y :: l = []) = false := by simp
      rw [hn]
      simp only [Bool.false_eq_true, if_false]
      show _ = G (fwS (sg1 st x) (y :: l))
      have hs1 := z1h st x
      rw [← prgL tot G ht (y :: l) (k + 1) (sg1 st x) (by simp only [List.length_cons] at h1 ⊢; omega) (by simp only [List.length_cons] at h2 ⊢; omega)]
      unfold sg1
      by_cases x1 : x = [46]
      · rw [if_pos (by simpa using x1), if_pos x1]; rfl
      · by_cases x2 : x = [46, 46]
        · rw [if_neg (by simpa using x1), if_pos (by simpa using x2), if_neg x1, if_pos x2, if_pos hg]; rfl
        · rw [if_neg (by simpa using x1), if_neg (by simpa using x2), if_neg x1, if_neg x2, if_pos (by omega)]; rfl
theorem z4i (q : List Bs) (h : q.length ≤ 100000) (hB : ∀ y, y ∈ q → y.length ≤ 9000) : ∃ j : Bs, j.length ≤ 1000000000 ∧ zgl q = some (47 :: j, 0) ∧ ∀ c : Int, ziv c q.reverse = some (47 :: j, 0) ∧ j = Lib.join q [47] := by
  have hj := zv8 9000 [47] q hB
  have hj2 : (Lib.join q [47]).length ≤ 100000 * 9001 := Nat.le_trans hj (Nat.mul_le_mul h (by simp))
  refine ⟨Lib.join q [47], by omega, ?_, fun c => ⟨?_, rfl⟩⟩
  · unfold zgl zc5
    rw [if_pos (by omega)]
    simp only [Option.bind_some]
    rw [if_pos (by simp; omega)]; rfl
  · unfold ziv zg7 zc5
    rw [if_pos (by simp; omega), List.reverse_reverse]
    simp only [Option.bind_some]
    rw [if_pos (by omega)]
    simp only [Option.bind_some]
    rw [if_pos (by simp; omega)]; rfl
noncomputable def npF (s : Bs) : Bs × Int := if pthB s then (match uns s with | some u => (47 :: Lib.join (fwS [] (spl 47 ((nrm u).drop 1))) [47], 0) | none => ([], 9)) else ([], 3)
theorem z35 (s : Bs) : ∃ p x, spl 47 s = p ++ [x] := by
  have := z5p 47 s
  exact ⟨(spl 47 s).dropLast, (spl 47 s).getLast this, (List.dropLast_concat_getLast this).symm⟩
theorem z6z (s : Bs) (hs : s.length ≤ 100000) : zek s = some (npF s) ∧ zkk s = some (npF s) := by
  unfold zek zkk npF
  rw [zqm s (by omega), zua s (by omega)]
  simp only [Option.bind_some]
  cases hp : pthB s
  · exact ⟨rfl, rfl⟩
  have hp1 : (s.length : Int) ≤ 1000 := by
    unfold pthB at hp
    simp only [Bool.and_eq_true, decide_eq_true_eq] at hp
    exact hp.1
  rw [zuv s (by omega), zvi s (by omega)]
  simp only [Bool.not_true, Bool.false_eq_true, if_false, if_true, Option.bind_some, ne_eq, not_true_eq_false, decide_false]
  cases hu : uns s with
  | none => exact ⟨rfl, rfl⟩
  | some u =>
    simp only [Bool.not_true, Bool.false_eq_true, if_false]
    have hul := z0v s u hu
    have hnl := z63 u
    have hu1 : 1 ≤ (nrm u).length := by
      cases u with
      | nil =>
        exfalso
        cases s with
        | nil => simp [pthB, Lib.hasPrefix] at hp
        | cons c r =>
          by_cases hc : c = 37
          · subst hc
            simp [pthB, Lib.hasPrefix] at hp
          · rw [zqe hc] at hu
            cases hq : uns r with
            | none => rw [hq] at hu; cases hu
            | some e => rw [hq] at hu; cases hu
      | cons p u =>
        unfold nrm nU
        rw [List.flatMap_cons, List.length_append]
        have : 1 ≤ (if (p.2 || frU p.1) = true then [p.1] else pcU p.1).length := by
          split
          · simp
          · rw [(zrw p.1).2]; omega
        omega
    have hsub : sub? (nrm u) 1 ((nrm u).length : Int) = some ((nrm u).drop 1) := by
      unfold sub?
      rw [if_pos (by omega), List.take_of_length_le (by simp)]; rfl
    have hsp : zb8 ((nrm u).drop 1) [47] = some (spl 47 ((nrm u).drop 1)) := by
      unfold zb8
      rw [if_pos ⟨by simp; omega, by simp⟩, zo3]
    have hll := zvt 47 ((nrm u).drop 1)
    simp only [List.length_drop] at hll
    have hpc : ∀ y, y ∈ spl 47 ((nrm u).drop 1) → y.length ≤ 9000 := fun y hy => by
      have := zqj 47 _ y hy
      simp only [List.length_drop] at this
      omega
    obtain ⟨p, x, hpx⟩ := z35 ((nrm u).drop 1)
    have hfl := z2h (spl 47 ((nrm u).drop 1)) []
    simp only [List.length_nil] at hfl
    obtain ⟨j, hj1, hj2, hj3⟩ := z4i (fwS [] (spl 47 ((nrm u).drop 1))) (by omega) (z2g _ [] (by simp) hpc)
    have hjj := (hj3 0).2
    constructor
    · rw [hsub]
      simp only [Option.bind_some]
      rw [hsp]
      simp only [Option.bind_some]
      rw [if_pos (by omega), prgL _ _ (by omega) _ 0 [] (by omega) (by simp only [List.length_nil]; omega), hj2, hjj]
    · rw [if_pos (by simp only [List.length_map]; omega), refL _ u 0 [] (by simp only [List.length_nil]; omega)]
      show zj4 (nrm u) = _
      unfold zj4
      rw [hsub]
      simp only [Option.bind_some]
      rw [hsp]
      simp only [Option.bind_some]
      rw [if_pos (by omega)]
      have hB := refB p x (fun l => ziv 0 l) (by
        have := congrArg List.length hpx
        simp only [List.length_append, List.length_singleton] at this
        omega) (spl 47 ((nrm u).drop 1)).length (by rw [hpx]; simp)
      rw [← hpx] at hB
      have hr : bkF x p.reverse = (fwS [] (spl 47 ((nrm u).drop 1))).reverse := by
        rw [hpx, ← z8r, List.reverse_reverse]
      rw [hr] at hB
      rw [← hjj, ← (hj3 0).1]
      exact hB
def dcB (x : Bs) : Bs := (dec false x).getD []
theorem z54 : ∀ (u : List (UInt8 × Bool)) (k : Nat) (x : Bs), x.length + u.length ≤ 900000000 →
    forL (fun (k : Nat) (x : za0) (s : (List Int)) => zge k x s) (fun (s : (List Int)) => zid s) k (u.map mkU) (zdv x) = some (x ++ u.map (·.1))
  | [], k, x, h => by
    show zid (zdv x) = _
    unfold zid
    rw [zn7]; simp
  | p :: u, k, x, h => by
    simp only [List.length_cons] at h
    show (zge k (mkU p) (zdv x)).bind _ = _
    have e : zge k (mkU p) (zdv x) = some (.inl (zdv (x ++ [p.1]))) := by
      unfold zge
      rw [if_pos (by rw [zn3]; omega), zlq]; rfl
    rw [e]
    simp only [Option.bind_some, after]
    rw [z54 u (k + 1) _ (by simp; omega)]
    simp
theorem z0o (s : Bs) (h : s.length ≤ 10000000) : zg9 s = some (dcB s) := by
  unfold zg9 dcB
  rw [zvi s (by omega), z2q]
  simp only [Option.bind_some]
  cases hu : uns s with
  | none => rfl
  | some u =>
    have hul := z0v s u hu
    simp only [Option.map_some, Option.getD_some]
    rw [if_pos (by simp; omega)]
    exact (z54 u 0 [] (by simp; omega)).trans (by simp)
noncomputable def sgU (c : UInt8) : Bool := frU c || decide (0 ≤ Lib.indexByte [33, 36, 38, 39, 40, 41, 42, 43, 44, 59, 61, 58, 64] c)
noncomputable def sU (c : UInt8) : Bs := if sgU c then [c] else pcU c
noncomputable def sgS (s : Bs) : Bs := s.flatMap sU
def dotB (x : Bs) : Bool := decide (x = [46]) || decide (x = [46, 46])
noncomputable def jnS (l : List Bs) : Bs := l.flatMap fun x => 47 :: sgS x
end Go.Proofs.YthgblfklceopgaaGreatDoor
