/- Plain: paths: the program goes from the first segment on, the reference from the last one back; they find the same. -/
import Derived.Test.YtbejggfkfaibeaaGreatDoorUnYg
namespace Go.Proofs.YtbejggfkfaibeaaGreatDoor
set_option linter.unusedVariables false
set_option maxRecDepth 20000
/-- a segment put to those before it -/
def sg1 (st : List Bs) (x : Bs) : List Bs := if x = [46] then st else if x = [46, 46] then st.dropLast else st ++ [x]
def sgL (st : List Bs) (x : Bs) : List Bs := if x = [46] then st ++ [[]] else if x = [46, 46] then st.dropLast ++ [[]] else st ++ [x]
/-- from the first segment on -/
def fwS : List Bs → List Bs → List Bs
  | st, [] => st
  | st, [x] => sgL st x
  | st, x :: y :: l => fwS (sg1 st x) (y :: l)
/-- from the last but one back -/
def bkS : List Bs → Nat → List Bs → List Bs
  | [], _, out => out
  | x :: r, k, out => if x = [46] then bkS r k out else if x = [46, 46] then bkS r (k + 1) out else if 0 < k then bkS r (k - 1) out else bkS r 0 (out ++ [x])
def bkF (x : Bs) (r : List Bs) : List Bs := if x = [46] then bkS r 0 [[]] else if x = [46, 46] then bkS r 1 [[]] else bkS r 0 [x]
theorem fwS_app : ∀ (p : List Bs) (x : Bs) (st : List Bs), fwS st (p ++ [x]) = sgL (p.foldl sg1 st) x
  | [], x, st => rfl
  | [y], x, st => rfl
  | y :: z :: p, x, st => fwS_app (z :: p) x (sg1 st y)
theorem bkS_eq : ∀ (r : List Bs) (k : Nat) (out : List Bs), bkS r k out = out ++ ((r.reverse.foldl sg1 []).take ((r.reverse.foldl sg1 []).length - k)).reverse
  | [], k, out => by simp [bkS]
  | x :: r, k, out => by
    have e : (x :: r).reverse.foldl sg1 [] = sg1 (r.reverse.foldl sg1 []) x := by simp [List.foldl_append]
    rw [e]
    generalize hF : r.reverse.foldl sg1 [] = F
    have ih := fun k out => bkS_eq r k out
    simp only [hF] at ih
    unfold bkS sg1
    by_cases h1 : x = [46]
    · rw [if_pos h1, if_pos h1, ih]
    · rw [if_neg h1, if_neg h1]
      by_cases h2 : x = [46, 46]
      · rw [if_pos h2, if_pos h2, ih, List.dropLast_eq_take, List.length_take, List.take_take]
        congr 3
        omega
      · rw [if_neg h2, if_neg h2]
        by_cases h3 : 0 < k
        · rw [if_pos h3, ih]
          congr 2
          rw [List.length_append, List.length_singleton, List.take_append_of_le_length (by omega)]
          congr 1; omega
        · rw [if_neg h3, ih]
          obtain rfl : k = 0 := by omega
          rw [Nat.sub_zero, Nat.sub_zero, List.take_length, List.take_length]
          simp
theorem bkF_eq (p : List Bs) (x : Bs) : (bkF x p.reverse).reverse = fwS [] (p ++ [x]) := by
  rw [fwS_app]
  unfold bkF sgL
  split
  · rw [bkS_eq]; simp
  · split
    · rw [bkS_eq]; simp [List.dropLast_eq_take]
    · rw [bkS_eq]; simp
theorem sg1_mem {st : List Bs} {x y : Bs} (h : y ∈ sg1 st x) : y ∈ st ∨ y = x := by
  unfold sg1 at h
  split at h
  · exact .inl h
  · split at h
    · exact .inl (List.dropLast_subset _ h)
    · rcases List.mem_append.1 h with h | h
      · exact .inl h
      · exact .inr (by simpa using h)
theorem sgL_mem {st : List Bs} {x y : Bs} (h : y ∈ sgL st x) : y ∈ st ∨ y = x ∨ y = [] := by
  unfold sgL at h
  split at h
  · rcases List.mem_append.1 h with h | h
    · exact .inl h
    · exact .inr (.inr (by simpa using h))
  · split at h
    · rcases List.mem_append.1 h with h | h
      · exact .inl (List.dropLast_subset _ h)
      · exact .inr (.inr (by simpa using h))
    · rcases List.mem_append.1 h with h | h
      · exact .inl h
      · exact .inr (.inl (by simpa using h))
theorem sg1_len (st : List Bs) (x : Bs) : (sg1 st x).length ≤ st.length + 1 := by
  unfold sg1
  split
  · omega
  · split
    · simp; omega
    · simp
theorem sgL_len (st : List Bs) (x : Bs) : (sgL st x).length ≤ st.length + 1 := by
  unfold sgL
  split
  · simp
  · split
    · simp
    · simp
theorem fwS_mem {B : Nat} : ∀ (l st : List Bs), (∀ y, y ∈ st → y.length ≤ B) → (∀ y, y ∈ l → y.length ≤ B) → ∀ y, y ∈ fwS st l → y.length ≤ B
  | [], st, h1, _, y, h => h1 y h
  | [x], st, h1, h2, y, h => by
    rcases sgL_mem h with h | rfl | rfl
    · exact h1 y h
    · exact h2 y (by simp)
    · simp
  | x :: z :: l, st, h1, h2, y, h => by
    refine fwS_mem (z :: l) (sg1 st x) (fun y h => ?_) (fun y h => h2 y (by simp at h ⊢; exact .inr h)) y h
    rcases sg1_mem h with h | rfl
    · exact h1 y h
    · exact h2 y (by simp)
theorem fwS_len : ∀ (l st : List Bs), (fwS st l).length ≤ st.length + l.length
  | [], st => by simp [fwS]
  | [x], st => sgL_len st x
  | x :: z :: l, st => by
    have h1 := fwS_len (z :: l) (sg1 st x)
    have h2 := sg1_len st x
    show (fwS (sg1 st x) (z :: l)).length ≤ _
    simp only [List.length_cons] at h1 ⊢
    omega
/-- a byte of a normal form -/
noncomputable def frU (c : UInt8) : Bool := decide (m_message_isFree (c.toNat : Int) = some true)
noncomputable def pcU (c : UInt8) : Bs := (m_message_percent (c.toNat : Int)).getD []
theorem ufree_at (c : UInt8) : m_message_isFree (c.toNat : Int) = some (frU c) := by
  have := u8_all (fun c => decide (m_message_isFree (c.toNat : Int) = some (frU c))) (by decide +kernel) c
  exact of_decide_eq_true this
theorem uperc_at (c : UInt8) : m_message_percent (c.toNat : Int) = some (pcU c) ∧ (pcU c).length = 3 := by
  have := u8_all (fun c => decide (m_message_percent (c.toNat : Int) = some (pcU c) ∧ (pcU c).length = 3)) (by decide +kernel) c
  exact of_decide_eq_true this
theorem ucoded_at (c : UInt8) : m_gateref2_coded (c.toNat : Int) = some (pcU c) := by
  have := u8_all (fun c => decide (m_gateref2_coded (c.toNat : Int) = some (pcU c))) (by decide +kernel) c
  exact of_decide_eq_true this
abbrev plL : Bs := [97, 98, 99, 100, 101, 102, 103, 104, 105, 106, 107, 108, 109, 110, 111, 112, 113, 114, 115, 116, 117, 118, 119, 120, 121, 122, 65, 66, 67, 68, 69, 70, 71, 72, 73, 74, 75, 76, 77, 78, 79, 80, 81, 82, 83, 84, 85, 86, 87, 88, 89, 90, 48, 49, 50, 51, 52, 53, 54, 55, 56, 57, 45, 46, 95, 126]
theorem uonly_at (c : UInt8) : (encL (IntKind.wrap .i32 (c.toNat : Int))).length ≤ 4 ∧ (((encL (IntKind.wrap .i32 (c.toNat : Int))).all fun d => plL.contains d) && decide ((c.toNat : Int) < 128)) = frU c := by
  have := u8_all (fun c => decide ((encL (IntKind.wrap .i32 (c.toNat : Int))).length ≤ 4 ∧ (((encL (IntKind.wrap .i32 (c.toNat : Int))).all fun d => plL.contains d) && decide ((c.toNat : Int) < 128)) = frU c)) (by decide +kernel) c
  exact of_decide_eq_true this
noncomputable def nU (p : UInt8 × Bool) : Bs := if p.2 || frU p.1 then [p.1] else pcU p.1
noncomputable def nrm (u : List (UInt8 × Bool)) : Bs := u.flatMap nU
theorem nU_len (p : UInt8 × Bool) : (nU p).length ≤ 3 := by
  unfold nU
  split
  · simp
  · rw [(uperc_at p.1).2]; exact Nat.le_refl _
theorem nrm_len (u : List (UInt8 × Bool)) : (nrm u).length ≤ 3 * u.length := by
  induction u with
  | nil => simp [nrm]
  | cons c s ih =>
    unfold nrm at ih ⊢
    have := nU_len c
    rw [List.flatMap_cons, List.length_append, List.length_cons]
    omega
/-- the program's normal form of units -/
theorem normalI (s : Bs) (hl : s.length ≤ 100000000) : ∀ t : Bs, ∀ (i : Nat) (x : Bs), s.drop i = t → i ≤ s.length → x.length ≤ i →
    iter (fun (q : Int × (List Int)) => message_normalUnits_L2 s q.1 q.2) ((i : Int), numsB x) = some (match uns t with | some u => (x ++ nrm u, true) | none => ([], false)) := by
  refine uns_ind ?_ ?_ ?_ ?_
  · intro i x hd hi hx
    have : s.length ≤ i := by simpa using hd
    obtain rfl : i = s.length := by omega
    rw [iter_out (body := fun (q : Int × (List Int)) => message_normalUnits_L2 s q.1 q.2) (s := ((s.length : Int), numsB x)) (r := (x, true))]
    · simp [uns, nrm]
    · unfold message_normalUnits_L2 message_normalUnits_J1
      rw [if_neg (by simp), if_pos (byR_nums x), strN_nums']; rfl
  · intro r h1 _ hb i x hd hi hx
    obtain ⟨g1, g2⟩ := at_drop hd
    have hu := isUnit_eq hd hl
    rw [hb] at hu
    rw [h1]
    refine iter_out (body := fun (q : Int × (List Int)) => message_normalUnits_L2 s q.1 q.2) (s := ((i : Int), numsB x)) ?_
    show message_normalUnits_L2 s (i : Int) (numsB x) = _
    unfold message_normalUnits_L2
    rw [if_pos (by simp; omega), g1]
    simp only [Option.bind_some]
    rw [if_neg (by decide), hu]
    rfl
  · intro a b t hh ih i x hd hi hx
    obtain ⟨g1, g2⟩ := at_drop hd
    have g3 := drop_succ hd
    have g4 := drop_succ (drop_succ g3)
    simp only [List.length_cons] at g2
    have hu : m_message_isUnit s (i : Int) = some (isH a && isH b) := isUnit_eq hd hl
    have hun := unit_eq hd hl hh
    have hlen : (numsB x).length + 1 ≤ 1000000000 := by rw [nums_len]; omega
    have hs : message_normalUnits_L2 s (i : Int) (numsB x) = some (.inl (((i + 3 : Nat) : Int), numsB (x ++ nU (h2 a b, false)))) := by
      unfold message_normalUnits_L2 message_normalUnits_J4 message_normalUnits_J3
      rw [if_pos (by simp; omega), g1]
      simp only [Option.bind_some]
      rw [if_neg (by decide), hu, hh]
      simp only [Option.bind_some, Bool.not_true, Bool.false_eq_true, if_false, hun, ufree_at]
      have hw : wr (wr ((i : Int) + 2) + 1) = ((i + 3 : Nat) : Int) := by
        rw [wr_id (n := (i : Int) + 2) (by omega), wr_id (by omega)]; omega
      rw [hw]
      unfold nU
      cases frU (h2 a b)
      · simp only [Bool.false_eq_true, if_false, Bool.or_false]
        rw [(uperc_at _).1]
        simp only [Option.bind_some]
        unfold m_strings_Builder_WriteString
        rw [if_pos (by rw [nums_len, (uperc_at _).2]; omega)]
        simp only [Option.bind_some, nums_app]
      · simp only [if_true, Bool.or_true]
        rw [wbyte _ _ hlen]
        simp only [Option.bind_some, nums_app]; rfl
    have hn := nU_len (h2 a b, false)
    rw [iter_in (body := fun (q : Int × (List Int)) => message_normalUnits_L2 s q.1 q.2) (s := ((i : Int), numsB x)) hs, ih (i + 3) _ g4 (by omega) (by simp; omega), uns_unit, hh]
    simp only [if_true]
    cases uns t <;> simp [nrm]
  · intro c r hc ih i x hd hi hx
    obtain ⟨g1, g2⟩ := at_drop hd
    have g3 := drop_succ hd
    have hlen : (numsB x).length + 1 ≤ 1000000000 := by rw [nums_len]; omega
    have hs : message_normalUnits_L2 s (i : Int) (numsB x) = some (.inl (((i + 1 : Nat) : Int), numsB (x ++ [c]))) := by
      unfold message_normalUnits_L2 message_normalUnits_J3
      rw [if_pos (by simp; omega), g1]
      simp only [Option.bind_some]
      rw [if_pos (by
        have : (c.toNat : Int) ≠ 37 := fun h => hc (UInt8.toNat_inj.1 (by simp; omega))
        simpa using this), wbyte _ _ hlen]
      have hw : wr ((i : Int) + 1) = ((i + 1 : Nat) : Int) := by rw [wr_id (by omega)]; omega
      simp only [Option.bind_some, hw, nums_app]; rfl
    rw [iter_in (body := fun (q : Int × (List Int)) => message_normalUnits_L2 s q.1 q.2) (s := ((i : Int), numsB x)) hs, ih (i + 1) _ g3 (by omega) (by simp; omega), uns_plain hc]
    cases uns r <;> simp [nrm, nU]
theorem normalUnits_eq (s : Bs) (hl : s.length ≤ 100000000) : m_message_normalUnits s = some (match uns s with | some u => (nrm u, true) | none => ([], false)) := by
  unfold m_message_normalUnits
  have := normalI s hl s 0 [] (by simp) (by omega) (by simp)
  simpa [numsB] using this
/-- the reference's -/
theorem refstep (k : Nat) (p : UInt8 × Bool) (v : Bs) (h : v.length ≤ 100000000) : gateref2_PathOf_L1 k (mkU p) v = some (.inl (v ++ nU p)) := by
  obtain ⟨c, b⟩ := p
  have e1 : strN [(c.toNat : Int)] = [c] := strN_nums' [c]
  have hJ : ∀ b : Bool, gateref2_PathOf_J5 v (mkU (c, false)) b = some (.inl (v ++ if b then [c] else pcU c)) := fun b => by
    unfold gateref2_PathOf_J5 gateref2_PathOf_J4 mkU
    cases b
    · simp only [Bool.false_eq_true, if_false]
      rw [ucoded_at]
      simp only [Option.bind_some]
      rw [if_pos (by rw [(uperc_at c).2]; omega)]
    · simp only [if_true, e1]
      rw [if_pos (by simp; omega)]
  unfold gateref2_PathOf_L1
  cases b
  · obtain ⟨q1, q2⟩ := uonly_at c
    have hcf : (mkU (c, false)).c_ = (c.toNat : Int) := rfl
    have hpf : (mkU (c, false)).plain_ = false := rfl
    rw [hpf, hcf]
    simp only [Bool.false_eq_true, if_false]
    rw [only_eq _ _ (by omega)]
    simp only [Option.bind_some]
    rw [hJ, hJ]
    unfold nU
    simp only [Bool.false_or]
    rw [← q2]
    cases (encL (IntKind.wrap .i32 (c.toNat : Int))).all fun d => plL.contains d <;> simp
  · have hpf : (mkU (c, true)).plain_ = true := rfl
    rw [hpf]
    simp only [if_true]
    unfold gateref2_PathOf_J5 gateref2_PathOf_J4 mkU
    simp only [if_true, e1]
    rw [if_pos (by simp; omega)]
    simp [nU]
theorem refL (F : Bs → Option (Bs × Int)) : ∀ (u : List (UInt8 × Bool)) (k : Nat) (v : Bs), v.length + 3 * u.length ≤ 100000000 →
    forL (fun (k : Nat) (x : S_gateref2_unit) (s : Bs) => gateref2_PathOf_L1 k x s) F k (u.map mkU) v = F (v ++ nrm u)
  | [], k, v, h => by simp [nrm, forL]
  | p :: u, k, v, h => by
    simp only [List.length_cons] at h
    have := nU_len p
    show (gateref2_PathOf_L1 k (mkU p) v).bind _ = _
    rw [refstep k p v (by omega)]
    simp only [Option.bind_some, after]
    rw [refL F u (k + 1) _ (by simp; omega)]
    simp [nrm]
/-- segments, the reference's way -/
theorem refB1 (l : List Bs) (G : List Bs → Option (Bs × Int)) (hl : l.length ≤ 10000000) : ∀ (n c : Nat) (out : List Bs), n < l.length → c + n ≤ 100000000 → out.length + n ≤ 100000000 →
    back (fun (k : Nat) (x : Bs) (s : Int × (List Bs)) => gateref2_PathOf_L2 l k x s.1 s.2) (fun (s : Int × (List Bs)) => G s.2) l n ((c : Int), out) = G (bkS (l.take n).reverse c out)
  | 0, c, out, _, _, _ => by simp [back, bkS]
  | n + 1, c, out, h1, h2, h3 => by
    obtain ⟨x, hx⟩ : ∃ x, l[n]? = some x := ⟨_, List.getElem?_eq_getElem (by omega)⟩
    have e : (l.take (n + 1)).reverse = x :: (l.take n).reverse := by
      rw [List.take_add_one, hx]; simp
    rw [e]
    show (l[n]?).bind _ = _
    rw [hx]
    simp only [Option.bind_some]
    have hk : decide ((n : Int) = wr ((l.length : Int) - 1)) = false := by
      rw [wr_id (by omega)]; simp; omega
    unfold bkS gateref2_PathOf_L2 gateref2_PathOf_J3
    rw [hk]
    simp only [Bool.false_eq_true, if_false]
    by_cases x1 : x = [46]
    · have x2 : x ≠ [46, 46] := by rw [x1]; simp
      rw [if_pos (by simp [x1]), if_neg (by simpa using x2), if_pos x1]
      exact refB1 l G hl n c out (by omega) (by omega) (by omega)
    · by_cases x2 : x = [46, 46]
      · rw [if_pos (by simp [x2]), if_pos (by simpa using x2), if_neg x1, if_pos x2, wr_id (by omega)]
        exact refB1 l G hl n (c + 1) out (by omega) (by omega) (by omega)
      · rw [if_neg (by simp [x1, x2]), if_neg x1, if_neg x2]
        by_cases hc : 0 < c
        · rw [if_pos (by simp; omega), if_pos hc, wr_id (by omega), show ((c : Int) - 1) = ((c - 1 : Nat) : Int) by omega]
          exact refB1 l G hl n (c - 1) out (by omega) (by omega) (by omega)
        · obtain rfl : c = 0 := by omega
          rw [if_neg (by simp), if_neg hc, if_pos (by omega)]
          exact refB1 l G hl n 0 (out ++ [x]) (by omega) (by omega) (by simp; omega)
theorem refB (p : List Bs) (x : Bs) (G : List Bs → Option (Bs × Int)) (hl : p.length ≤ 1000000) (n : Nat) (hn : n = p.length + 1) :
    back (fun (k : Nat) (x_1 : Bs) (s : Int × (List Bs)) => gateref2_PathOf_L2 (p ++ [x]) k x_1 s.1 s.2) (fun (s : Int × (List Bs)) => G s.2) (p ++ [x]) n (0, []) = G (bkF x p.reverse) := by
  subst hn
  have e0 : (p ++ [x]).length = p.length + 1 := by simp
  show ((p ++ [x])[p.length]?).bind _ = _
  rw [List.getElem?_append_right (Nat.le_refl _), Nat.sub_self]
  show (gateref2_PathOf_L2 (p ++ [x]) p.length x 0 []).bind _ = _
  have hk : decide ((p.length : Int) = wr (((p ++ [x]).length : Int) - 1)) = true := by
    rw [e0, wr_id (by omega)]; simp
  have hB := refB1 (p ++ [x]) G (by omega) p.length
  have ht : (p ++ [x]).take p.length = p := by simp
  rw [ht] at hB
  unfold gateref2_PathOf_L2 gateref2_PathOf_J3 bkF
  rw [hk]
  simp only [if_true]
  by_cases x1 : x = [46]
  · have x2 : x ≠ [46, 46] := by rw [x1]; simp
    rw [if_pos (by simp [x1]), if_pos (by simp), if_neg (by simpa using x2), if_pos x1]
    exact hB 0 [[]] (by omega) (by omega) (by simp; omega)
  · by_cases x2 : x = [46, 46]
    · rw [if_pos (by simp [x2]), if_pos (by simp), if_pos (by simpa using x2), if_neg x1, if_pos x2, wr_id (by omega)]
      exact hB 1 [[]] (by omega) (by omega) (by simp; omega)
    · rw [if_neg (by simp [x1, x2]), if_neg x1, if_neg x2, if_neg (by simp), if_pos (by simp)]
      exact hB 0 [x] (by omega) (by omega) (by simp; omega)
/-- segments, the program's way -/
theorem prgL (tot : List Bs) (G : List Bs → Option (Bs × Int)) (ht : tot.length ≤ 1000000) : ∀ (l : List Bs) (k : Nat) (st : List Bs), k + l.length = tot.length → st.length + l.length ≤ 10000000 →
    forL (fun (k : Nat) (x : Bs) (s : (List Bs)) => message_NormalPath_L1 tot k x s) G k l st = G (fwS st l)
  | [], k, st, _, _ => rfl
  | x :: l, k, st, h1, h2 => by
    simp only [List.length_cons] at h1 h2
    show (message_NormalPath_L1 tot k x st).bind _ = _
    have hmx : max (wr ((st.length : Int) - 1)) 0 = ((st.length - 1 : Nat) : Int) := by
      rw [wr_id (by omega)]; omega
    have hk : decide ((k : Int) = wr ((tot.length : Int) - 1)) = decide (l = []) := by
      rw [wr_id (by omega)]
      cases l with
      | nil => simp at h1; simp; omega
      | cons a l => simp at h1; simp; omega
    have hdl : st.take (st.length - 1) = st.dropLast := (List.dropLast_eq_take).symm
    unfold message_NormalPath_L1 message_NormalPath_J3 message_NormalPath_J2
    rw [hmx, hk, Int.toNat_natCast, hdl]
    have hg : (0 : Int) ≤ ((st.length - 1 : Nat) : Int) ∧ ((st.length - 1 : Nat) : Int) ≤ (st.length : Int) := by omega
    match l with
    | [] =>
      simp only [decide_true, if_true]
      show _ = G (sgL st x)
      unfold sgL
      by_cases x1 : x = [46]
      · rw [if_pos (by simpa using x1), if_pos x1, if_pos (by omega)]; rfl
      · by_cases x2 : x = [46, 46]
        · rw [if_neg (by simpa using x1), if_pos (by simpa using x2), if_neg x1, if_pos x2, if_pos hg, if_pos (by simp; omega)]; rfl
        · rw [if_neg (by simpa using x1), if_neg (by simpa using x2), if_neg x1, if_neg x2, if_pos (by omega)]; rfl
    | y :: l =>
      have hn : decide (y :: l = []) = false := by simp
      rw [hn]
      simp only [Bool.false_eq_true, if_false]
      show _ = G (fwS (sg1 st x) (y :: l))
      have hs1 := sg1_len st x
      rw [← prgL tot G ht (y :: l) (k + 1) (sg1 st x) (by simp only [List.length_cons] at h1 ⊢; omega) (by simp only [List.length_cons] at h2 ⊢; omega)]
      unfold sg1
      by_cases x1 : x = [46]
      · rw [if_pos (by simpa using x1), if_pos x1]; rfl
      · by_cases x2 : x = [46, 46]
        · rw [if_neg (by simpa using x1), if_pos (by simpa using x2), if_neg x1, if_pos x2, if_pos hg]; rfl
        · rw [if_neg (by simpa using x1), if_neg (by simpa using x2), if_neg x1, if_neg x2, if_pos (by omega)]; rfl
theorem pathJ_eq (q : List Bs) (h : q.length ≤ 100000) (hB : ∀ y, y ∈ q → y.length ≤ 9000) : ∃ j : Bs, j.length ≤ 1000000000 ∧ message_NormalPath_E1 q = some (47 :: j, 0) ∧ ∀ c : Int, gateref2_PathOf_E2 c q.reverse = some (47 :: j, 0) ∧ j = Lib.join q [47] := by
  have hj := join_le 9000 [47] q hB
  have hj2 : (Lib.join q [47]).length ≤ 100000 * 9001 := Nat.le_trans hj (Nat.mul_le_mul h (by simp))
  refine ⟨Lib.join q [47], by omega, ?_, fun c => ⟨?_, rfl⟩⟩
  · unfold message_NormalPath_E1 m_strings_Join
    rw [if_pos (by omega)]
    simp only [Option.bind_some]
    rw [if_pos (by simp; omega)]; rfl
  · unfold gateref2_PathOf_E2 m_slices_Reverse_string m_strings_Join
    rw [if_pos (by simp; omega), List.reverse_reverse]
    simp only [Option.bind_some]
    rw [if_pos (by omega)]
    simp only [Option.bind_some]
    rw [if_pos (by simp; omega)]; rfl
/-- what a path is as a normal path -/
noncomputable def npF (s : Bs) : Bs × Int := if pthB s then (match uns s with | some u => (47 :: Lib.join (fwS [] (spl 47 ((nrm u).drop 1))) [47], 0) | none => ([], 9)) else ([], 3)
theorem spl_snoc (s : Bs) : ∃ p x, spl 47 s = p ++ [x] := by
  have := spl_ne 47 s
  exact ⟨(spl 47 s).dropLast, (spl 47 s).getLast this, (List.dropLast_concat_getLast this).symm⟩
theorem path_eq (s : Bs) (hs : s.length ≤ 100000) : m_message_NormalPath s = some (npF s) ∧ m_gateref2_PathOf s = some (npF s) := by
  unfold m_message_NormalPath m_gateref2_PathOf npF
  rw [pathFault_eq s (by omega), pathForm_eq s (by omega)]
  simp only [Option.bind_some]
  cases hp : pthB s
  · exact ⟨rfl, rfl⟩
  have hp1 : (s.length : Int) ≤ 1000 := by
    unfold pthB at hp
    simp only [Bool.and_eq_true, decide_eq_true_eq] at hp
    exact hp.1
  rw [normalUnits_eq s (by omega), units_eq s (by omega)]
  simp only [Bool.not_true, Bool.false_eq_true, if_false, if_true, Option.bind_some, ne_eq, not_true_eq_false, decide_false]
  cases hu : uns s with
  | none => exact ⟨rfl, rfl⟩
  | some u =>
    simp only [Bool.not_true, Bool.false_eq_true, if_false]
    have hul := uns_len s u hu
    have hnl := nrm_len u
    have hu1 : 1 ≤ (nrm u).length := by
      cases u with
      | nil =>
        exfalso
        cases s with
        | nil => simp [pthB, Lib.hasPrefix] at hp
        | cons c r =>
          by_cases hc : c = 37
          · subst hc
            simp [pthB, Lib.hasPrefix] at hp
          · rw [uns_plain hc] at hu
            cases hq : uns r with
            | none => rw [hq] at hu; cases hu
            | some e => rw [hq] at hu; cases hu
      | cons p u =>
        unfold nrm nU
        rw [List.flatMap_cons, List.length_append]
        have : 1 ≤ (if (p.2 || frU p.1) = true then [p.1] else pcU p.1).length := by
          split
          · simp
          · rw [(uperc_at p.1).2]; omega
        omega
    have hsub : sub? (nrm u) 1 ((nrm u).length : Int) = some ((nrm u).drop 1) := by
      unfold sub?
      rw [if_pos (by omega), List.take_of_length_le (by simp)]; rfl
    have hsp : m_strings_Split ((nrm u).drop 1) [47] = some (spl 47 ((nrm u).drop 1)) := by
      unfold m_strings_Split
      rw [if_pos ⟨by simp; omega, by simp⟩, splitL_one]
    have hll := spl_len 47 ((nrm u).drop 1)
    simp only [List.length_drop] at hll
    have hpc : ∀ y, y ∈ spl 47 ((nrm u).drop 1) → y.length ≤ 9000 := fun y hy => by
      have := spl_piece 47 _ y hy
      simp only [List.length_drop] at this
      omega
    obtain ⟨p, x, hpx⟩ := spl_snoc ((nrm u).drop 1)
    have hfl := fwS_len (spl 47 ((nrm u).drop 1)) []
    simp only [List.length_nil] at hfl
    obtain ⟨j, hj1, hj2, hj3⟩ := pathJ_eq (fwS [] (spl 47 ((nrm u).drop 1))) (by omega) (fwS_mem _ [] (by simp) hpc)
    have hjj := (hj3 0).2
    constructor
    · rw [hsub]
      simp only [Option.bind_some]
      rw [hsp]
      simp only [Option.bind_some]
      rw [if_pos (by omega), prgL _ _ (by omega) _ 0 [] (by omega) (by simp only [List.length_nil]; omega), hj2, hjj]
    · rw [if_pos (by simp only [List.length_map]; omega), refL _ u 0 [] (by simp only [List.length_nil]; omega)]
      show gateref2_PathOf_E1 (nrm u) = _
      unfold gateref2_PathOf_E1
      rw [hsub]
      simp only [Option.bind_some]
      rw [hsp]
      simp only [Option.bind_some]
      rw [if_pos (by omega)]
      have hB := refB p x (fun l => gateref2_PathOf_E2 0 l) (by
        have := congrArg List.length hpx
        simp only [List.length_append, List.length_singleton] at this
        omega) (spl 47 ((nrm u).drop 1)).length (by rw [hpx]; simp)
      rw [← hpx] at hB
      have hr : bkF x p.reverse = (fwS [] (spl 47 ((nrm u).drop 1))).reverse := by
        rw [hpx, ← bkF_eq, List.reverse_reverse]
      rw [hr] at hB
      rw [← hjj, ← (hj3 0).1]
      exact hB
theorem npF_len (s : Bs) : (npF s).2 = 0 → ∃ j : Bs, (npF s).1 = 47 :: j ∧ j.length ≤ 10000000 := by
  unfold npF
  cases hp : pthB s
  · intro h; exact absurd h (by simp)
  simp only [if_true]
  have hp1 : (s.length : Int) ≤ 1000 := by
    unfold pthB at hp
    simp only [Bool.and_eq_true, decide_eq_true_eq] at hp
    exact hp.1
  cases hu : uns s with
  | none => intro h; exact absurd h (by simp)
  | some u =>
    intro _
    refine ⟨_, rfl, ?_⟩
    have hul := uns_len s u hu
    have hnl := nrm_len u
    have hll := spl_len 47 ((nrm u).drop 1)
    simp only [List.length_drop] at hll
    have hpc : ∀ y, y ∈ spl 47 ((nrm u).drop 1) → y.length ≤ 3000 := fun y hy => by
      have := spl_piece 47 _ y hy
      simp only [List.length_drop] at this
      omega
    have hfl := fwS_len (spl 47 ((nrm u).drop 1)) []
    simp only [List.length_nil] at hfl
    have hj := join_le 3000 [47] _ (fwS_mem (spl 47 ((nrm u).drop 1)) [] (by simp) hpc)
    exact Nat.le_trans hj (Nat.le_trans (Nat.mul_le_mul (show _ ≤ 3001 by omega) (Nat.le_refl _)) (by simp))
/-- the bytes that a segment stands for -/
def dcB (x : Bs) : Bs := (dec false x).getD []
theorem dcB_at (x : Bs) (h : x.length ≤ 10000000) : ∃ b, m_message_decoded x false = some (dcB x, b) := by
  rw [decoded_eq x false (by omega)]
  unfold dcB
  cases dec false x with
  | none => exact ⟨false, rfl⟩
  | some d => exact ⟨true, rfl⟩
theorem bytesL : ∀ (u : List (UInt8 × Bool)) (k : Nat) (x : Bs), x.length + u.length ≤ 900000000 →
    forL (fun (k : Nat) (x : S_gateref2_unit) (s : (List Int)) => gateref2_bytesOf_L1 k x s) (fun (s : (List Int)) => gateref2_bytesOf_E1 s) k (u.map mkU) (numsB x) = some (x ++ u.map (·.1))
  | [], k, x, h => by
    show gateref2_bytesOf_E1 (numsB x) = _
    unfold gateref2_bytesOf_E1
    rw [strN_nums']; simp
  | p :: u, k, x, h => by
    simp only [List.length_cons] at h
    show (gateref2_bytesOf_L1 k (mkU p) (numsB x)).bind _ = _
    have e : gateref2_bytesOf_L1 k (mkU p) (numsB x) = some (.inl (numsB (x ++ [p.1]))) := by
      unfold gateref2_bytesOf_L1
      rw [if_pos (by rw [nums_len]; omega), nums_app]; rfl
    rw [e]
    simp only [Option.bind_some, after]
    rw [bytesL u (k + 1) _ (by simp; omega)]
    simp
theorem bytesOf_eq (s : Bs) (h : s.length ≤ 10000000) : m_gateref2_bytesOf s = some (dcB s) := by
  unfold m_gateref2_bytesOf dcB
  rw [units_eq s (by omega), dec_uns]
  simp only [Option.bind_some]
  cases hu : uns s with
  | none => rfl
  | some u =>
    have hul := uns_len s u hu
    simp only [Option.map_some, Option.getD_some]
    rw [if_pos (by simp; omega)]
    exact (bytesL u 0 [] (by simp; omega)).trans (by simp)
theorem segR (F : List Bs → Option ((List Bs) × Int)) : ∀ (rest dn : List Bs), (∀ x, x ∈ rest → x.length ≤ 10000000) →
    rng (fun (k : Nat) (s : (List Bs)) => message_Segments_L1 k s) F rest.length dn.length (dn ++ rest) = F (dn ++ rest.map dcB)
  | [], dn, _ => by simp [rng]
  | x :: rest, dn, h => by
    obtain ⟨b, hb⟩ := dcB_at x (h x (by simp))
    show (message_Segments_L1 dn.length (dn ++ x :: rest)).bind _ = _
    have e : message_Segments_L1 dn.length (dn ++ x :: rest) = some (.inl ((dn ++ [dcB x]) ++ rest)) := by
      unfold message_Segments_L1
      rw [List.getElem?_append_right (Nat.le_refl _), Nat.sub_self]
      simp only [List.getElem?_cons_zero, Option.bind_some]
      rw [hb]
      simp only [Option.bind_some]
      rw [List.set_append_right _ _ (Nat.le_refl _), Nat.sub_self, List.set_cons_zero]
      simp
    rw [e]
    simp only [Option.bind_some, after]
    have ih := segR F rest (dn ++ [dcB x]) (fun y hy => h y (by simp [hy]))
    rw [List.length_append, List.length_singleton] at ih
    rw [ih]
    simp
theorem segF (E : List Bs → Option ((List Bs) × Int)) : ∀ (l : List Bs) (k : Nat) (out : List Bs), (∀ x, x ∈ l → x.length ≤ 10000000) → out.length + l.length ≤ 900000000 →
    forL (fun (k : Nat) (x : Bs) (s : (List Bs)) => gateref2_SegmentsOf_L1 k x s) E k l out = E (out ++ l.map dcB)
  | [], k, out, _, _ => by simp [forL]
  | x :: l, k, out, h, hl => by
    simp only [List.length_cons] at hl
    show (gateref2_SegmentsOf_L1 k x out).bind _ = _
    have e : gateref2_SegmentsOf_L1 k x out = some (.inl (out ++ [dcB x])) := by
      unfold gateref2_SegmentsOf_L1
      rw [bytesOf_eq x (h x (by simp))]
      simp only [Option.bind_some]
      rw [if_pos (by omega)]
    rw [e]
    simp only [Option.bind_some, after]
    rw [segF E l (k + 1) _ (fun y hy => h y (by simp [hy])) (by simp; omega)]
    simp
theorem segs_eq (s : Bs) (hs : s.length ≤ 100000) : ∃ r : List Bs × Int, m_message_Segments s = some r ∧ m_gateref2_SegmentsOf s = some r ∧ r.1.length ≤ 1000000 := by
  obtain ⟨p1, p2⟩ := path_eq s hs
  unfold m_message_Segments m_gateref2_SegmentsOf
  rw [p1, p2]
  simp only [Option.bind_some]
  by_cases he : (npF s).2 = 0
  · obtain ⟨j, hj1, hj2⟩ := npF_len s he
    rw [if_neg (by simpa using he), if_neg (by simpa using he), hj1]
    have hsub : sub? (47 :: j : Bs) 1 (((47 : UInt8) :: j).length : Int) = some j := by
      unfold sub?
      rw [if_pos (by simp only [List.length_cons]; omega), List.take_of_length_le (by simp)]; rfl
    have hsp : m_strings_Split j [47] = some (spl 47 j) := by
      unfold m_strings_Split
      rw [if_pos ⟨by omega, by simp⟩, splitL_one]
    have hll := spl_len 47 j
    have hpc : ∀ y, y ∈ spl 47 j → y.length ≤ 10000000 := fun y hy => by
      have := spl_piece 47 _ y hy
      omega
    rw [hsub]
    simp only [Option.bind_some]
    rw [hsp]
    simp only [Option.bind_some]
    have hF := segF (fun (s : (List Bs)) => gateref2_SegmentsOf_E1 s) (spl 47 j) 0 [] hpc (by simp only [List.length_nil]; omega)
    have hE : gateref2_SegmentsOf_E1 ([] ++ (spl 47 j).map dcB) = if decide (100 < ((spl 47 j).length : Int)) then (some ([], 2)) else (some ((spl 47 j).map dcB, 0)) := by
      unfold gateref2_SegmentsOf_E1
      simp only [List.nil_append, List.length_map]
    by_cases h1 : 100 < (spl 47 j).length
    · refine ⟨([], 2), by rw [if_pos (by simp; omega)], ?_, by simp⟩
      rw [if_pos (by omega)]
      refine hF.trans (hE.trans ?_)
      rw [if_pos (by simp; omega)]
    · refine ⟨((spl 47 j).map dcB, 0), ?_, ?_, by simp; omega⟩
      · rw [if_neg (by simp; omega), if_pos (by omega)]
        exact (segR (fun (s : (List Bs)) => message_Segments_E1 s) (spl 47 j) [] hpc).trans rfl
      · rw [if_pos (by omega)]
        refine hF.trans (hE.trans ?_)
        rw [if_neg (by simp; omega)]
  · exact ⟨([], (npF s).2), by rw [if_pos (by simpa using he)], by rw [if_pos (by simpa using he)], by simp⟩
/-- a byte of a segment that is written -/
noncomputable def sgU (c : UInt8) : Bool := frU c || decide (0 ≤ Lib.indexByte [33, 36, 38, 39, 40, 41, 42, 43, 44, 59, 61, 58, 64] c)
theorem sgU_at (c : UInt8) : decide (0 ≤ Lib.indexByte [97, 98, 99, 100, 101, 102, 103, 104, 105, 106, 107, 108, 109, 110, 111, 112, 113, 114, 115, 116, 117, 118, 119, 120, 121, 122, 65, 66, 67, 68, 69, 70, 71, 72, 73, 74, 75, 76, 77, 78, 79, 80, 81, 82, 83, 84, 85, 86, 87, 88, 89, 90, 48, 49, 50, 51, 52, 53, 54, 55, 56, 57, 45, 46, 95, 126, 33, 36, 38, 39, 40, 41, 42, 43, 44, 59, 61, 58, 64] c) = sgU c := by
  have := u8_all (fun c => decide (0 ≤ Lib.indexByte [97, 98, 99, 100, 101, 102, 103, 104, 105, 106, 107, 108, 109, 110, 111, 112, 113, 114, 115, 116, 117, 118, 119, 120, 121, 122, 65, 66, 67, 68, 69, 70, 71, 72, 73, 74, 75, 76, 77, 78, 79, 80, 81, 82, 83, 84, 85, 86, 87, 88, 89, 90, 48, 49, 50, 51, 52, 53, 54, 55, 56, 57, 45, 46, 95, 126, 33, 36, 38, 39, 40, 41, 42, 43, 44, 59, 61, 58, 64] c) == sgU c) (by decide +kernel) c
  simpa using this
noncomputable def sU (c : UInt8) : Bs := if sgU c then [c] else pcU c
noncomputable def sgS (s : Bs) : Bs := s.flatMap sU
theorem sU_len (c : UInt8) : (sU c).length ≤ 3 := by
  unfold sU
  split
  · simp
  · rw [(uperc_at c).2]; exact Nat.le_refl _
theorem sgS_len (s : Bs) : (sgS s).length ≤ 3 * s.length := by
  induction s with
  | nil => simp [sgS]
  | cons c s ih =>
    unfold sgS at ih ⊢
    have := sU_len c
    rw [List.flatMap_cons, List.length_append, List.length_cons]
    omega
theorem sgP (k : Nat) (c : UInt8) (x : Bs) (hl : x.length + 3 ≤ 1000000000) : message_Segment_L1 k c (numsB x) = some (.inl (numsB (x ++ sU c))) := by
  have hn : (numsB x).length + 1 ≤ 1000000000 := by rw [nums_len]; omega
  have e1 : ((c.toNat : Int)).toNat.toUInt8 = c := by simp
  have hJ : ∀ b : Bool, message_Segment_J3 (numsB x) c b = some (.inl (numsB (x ++ if b then [c] else pcU c))) := fun b => by
    unfold message_Segment_J3 message_Segment_J2
    cases b
    · simp only [Bool.false_eq_true, if_false]
      rw [(uperc_at c).1]
      simp only [Option.bind_some]
      unfold m_strings_Builder_WriteString
      rw [if_pos (by rw [nums_len, (uperc_at c).2]; omega)]
      simp only [Option.bind_some, nums_app]
    · simp only [if_true]
      rw [wbyte _ _ hn]
      simp only [Option.bind_some, nums_app]; rfl
  unfold message_Segment_L1 m_strings_IndexByte sU sgU
  rw [ufree_at]
  simp only [Option.bind_some, e1, hJ]
  cases frU c <;> simp
theorem sgR (k : Nat) (c : UInt8) (x : Bs) (hl : x.length + 3 ≤ 1000000000) : gateref2_PathFrom_L3 k c (numsB x) = some (.inl (numsB (x ++ sU c))) := by
  have hn : (numsB x).length + 1 ≤ 1000000000 := by rw [nums_len]; omega
  have e1 : ((c.toNat : Int)).toNat.toUInt8 = c := by simp
  unfold gateref2_PathFrom_L3 gateref2_PathFrom_J4 m_strings_IndexByte sU
  simp only [Option.bind_some]
  rw [e1, sgU_at]
  cases sgU c
  · simp only [Bool.false_eq_true, if_false]
    rw [ucoded_at]
    simp only [Option.bind_some]
    rw [if_pos (by rw [nums_len, (uperc_at c).2]; omega), nums_app]
  · simp only [if_true]
    rw [if_pos hn, nums_app]; rfl
theorem sgLP : ∀ (s : Bs) (k : Nat) (x : Bs), x.length + 3 * s.length ≤ 900000000 → forL (fun (k : Nat) (x : UInt8) (s : (List Int)) => message_Segment_L1 k x s) (fun (s : (List Int)) => message_Segment_E1 s) k s (numsB x) = some (x ++ sgS s)
  | [], k, x, h => by
    show message_Segment_E1 (numsB x) = _
    unfold message_Segment_E1
    rw [if_pos (byR_nums x), strN_nums']; simp [sgS]
  | c :: s, k, x, h => by
    simp only [List.length_cons] at h
    have := sU_len c
    show (message_Segment_L1 k c (numsB x)).bind _ = _
    rw [sgP k c x (by omega)]
    simp only [Option.bind_some, after]
    rw [sgLP s (k + 1) _ (by simp; omega)]
    simp [sgS]
theorem sgLR : ∀ (s : Bs) (k : Nat) (x : Bs), x.length + 3 * s.length ≤ 900000000 → forL (fun (k : Nat) (x : UInt8) (s : (List Int)) => gateref2_PathFrom_L3 k x s) (fun (s : (List Int)) => gateref2_PathFrom_E3 s) k s (numsB x) = some (.inl (numsB (x ++ sgS s)))
  | [], k, x, h => by
    show gateref2_PathFrom_E3 (numsB x) = _
    unfold gateref2_PathFrom_E3
    simp [sgS]
  | c :: s, k, x, h => by
    simp only [List.length_cons] at h
    have := sU_len c
    show (gateref2_PathFrom_L3 k c (numsB x)).bind _ = _
    rw [sgR k c x (by omega)]
    simp only [Option.bind_some, after]
    rw [sgLR s (k + 1) _ (by simp; omega)]
    simp [sgS]
theorem segment_eq (s : Bs) (h : s.length ≤ 1000000) : m_message_Segment s = some (sgS s) := by
  unfold m_message_Segment
  rw [if_pos (by omega)]
  exact sgLP s 0 [] (by simp only [List.length_nil]; omega)
def dotB (x : Bs) : Bool := decide (x = [46]) || decide (x = [46, 46])
noncomputable def jnS (l : List Bs) : Bs := l.flatMap fun x => 47 :: sgS x
theorem jnLP : ∀ (l : List Bs) (k : Nat) (x : Bs), (∀ y, y ∈ l → y.length ≤ 1000) → x.length + 4000 * l.length ≤ 900000000 →
    forL (fun (k : Nat) (x : Bs) (s : (List Int)) => message_JoinPath_L1 k x s) (fun (s : (List Int)) => message_JoinPath_E1 s) k l (numsB x) = if l.any dotB then some ([], 5) else message_JoinPath_E1 (numsB (x ++ jnS l))
  | [], k, x, _, h => by simp [forL, jnS]
  | y :: l, k, x, hy, h => by
    simp only [List.length_cons] at h
    have h1 := hy y (by simp)
    have h2 := sgS_len y
    show (message_JoinPath_L1 k y (numsB x)).bind _ = _
    have e : message_JoinPath_L1 k y (numsB x) = if dotB y then some (.inr ([], 5)) else some (.inl (numsB (x ++ (47 :: sgS y)))) := by
      unfold message_JoinPath_L1
      rw [show ((decide (y = [46])) || (decide (y = [46, 46]))) = dotB y from rfl]
      cases dotB y
      · simp only [Bool.false_eq_true, if_false]
        rw [segment_eq y (by omega)]
        simp only [Option.bind_some]
        rw [if_pos (by simp; omega)]
        unfold m_strings_Builder_WriteString
        rw [if_pos (by rw [nums_len]; simp; omega)]
        simp only [Option.bind_some]
        rw [← nums_app]; rfl
      · rfl
    rw [e, List.any_cons]
    cases hd : dotB y
    · simp only [Bool.false_eq_true, if_false, Option.bind_some, after, Bool.false_or]
      rw [jnLP l (k + 1) _ (fun z hz => hy z (by simp [hz])) (by simp; omega)]
      simp [jnS]
    · rfl
theorem jnLR : ∀ (l : List Bs) (k : Nat) (x : Bs), (∀ y, y ∈ l → y.length ≤ 1000) → x.length + 4000 * l.length ≤ 900000000 →
    forL (fun (k : Nat) (x : Bs) (s : (List Int)) => gateref2_PathFrom_L2 k x s) (fun (s : (List Int)) => gateref2_PathFrom_E2 s) k l (numsB x) = gateref2_PathFrom_E2 (numsB (x ++ jnS l))
  | [], k, x, _, h => by simp [forL, jnS]
  | y :: l, k, x, hy, h => by
    simp only [List.length_cons] at h
    have h1 := hy y (by simp)
    have h2 := sgS_len y
    show (gateref2_PathFrom_L2 k y (numsB x)).bind _ = _
    have e : gateref2_PathFrom_L2 k y (numsB x) = some (.inl (numsB ((x ++ [47]) ++ sgS y))) := by
      unfold gateref2_PathFrom_L2
      rw [if_pos (by rw [nums_len]; omega), if_pos (by omega)]
      have := sgLR y 0 (x ++ [47]) (by simp; omega)
      rw [nums_app] at this
      exact this
    rw [e]
    simp only [Option.bind_some, after]
    rw [jnLR l (k + 1) _ (fun z hz => hy z (by simp [hz])) (by simp; omega)]
    simp [jnS]
theorem contains_eq (l : List Bs) (v : Bs) (h : l.length ≤ 1000000000) : m_slices_Contains_L_string_string_ l v = some (l.any fun x => decide (v = x)) :=
  gCon_eq l (p := fun x => some (decide (v = x))) (fun x => decide (v = x)) h fun _ _ => rfl
theorem joinE_eq (z : Bs) (h : z.length ≤ 900000000) : message_JoinPath_E1 (numsB z) = gateref2_PathFrom_E2 (numsB z) ∧ ∃ r, gateref2_PathFrom_E2 (numsB z) = some r := by
  unfold message_JoinPath_E1 gateref2_PathFrom_E2 m_strings_Builder_Len
  simp only [Option.bind_some, nums_len, byR_nums, if_true]
  constructor
  · first | rfl | trivial
  · split <;> exact ⟨_, rfl⟩
theorem joinPath_eq (l : List Bs) (hl : l.length ≤ 1000) (hy : ∀ y, y ∈ l → y.length ≤ 1000) : ∃ r, m_message_JoinPath l = some r ∧ m_gateref2_PathFrom l = some r := by
  have hP := jnLP l 0 [] hy (by simp; omega)
  have hR := jnLR l 0 [] hy (by simp; omega)
  have hjl : (jnS l).length ≤ 4000 * l.length := by
    clear hP hR hl
    induction l with
    | nil => simp [jnS]
    | cons y l ih =>
      have h1 := hy y (by simp)
      have h2 := sgS_len y
      have := ih fun z hz => hy z (by simp [hz])
      unfold jnS at this ⊢
      rw [List.flatMap_cons, List.length_append, List.length_cons, List.length_cons]
      omega
  have hE := joinE_eq (jnS l) (by omega)
  have ha : l.any dotB = ((l.any fun x => decide ([46] = x)) || (l.any fun x => decide ([46, 46] = x))) := by
    clear hP hR hE hjl hl hy
    induction l with
    | nil => rfl
    | cons y l ih =>
      rw [List.any_cons, List.any_cons, List.any_cons, ih]
      unfold dotB
      rw [show decide (y = [46]) = decide ([46] = y) from by simp [eq_comm], show decide (y = [46, 46]) = decide ([46, 46] = y) from by simp [eq_comm]]
      cases decide ([46] = y) <;> cases decide ([46, 46] = y) <;> simp
  unfold m_message_JoinPath m_gateref2_PathFrom
  rw [contains_eq l _ (by omega), contains_eq l _ (by omega)]
  simp only [Option.bind_some]
  by_cases h1 : decide (100 < (l.length : Int)) = true
  · rw [if_pos h1, if_pos h1]; exact ⟨_, rfl, rfl⟩
  rw [if_neg h1, if_neg h1]
  by_cases h2 : decide ((l.length : Int) = 0) = true
  · rw [if_pos h2, if_pos h2]; exact ⟨_, rfl, rfl⟩
  rw [if_neg h2, if_neg h2, if_pos (by omega)]
  have hP' : forL (fun (k : Nat) (x : Bs) (s : (List Int)) => message_JoinPath_L1 k x s) (fun (s : (List Int)) => message_JoinPath_E1 s) 0 l ([] : List Int) = if l.any dotB then some ([], 5) else message_JoinPath_E1 (numsB (jnS l)) := by simpa [numsB] using hP
  have hR' : forL (fun (k : Nat) (x : Bs) (s : (List Int)) => gateref2_PathFrom_L2 k x s) (fun (s : (List Int)) => gateref2_PathFrom_E2 s) 0 l [] = gateref2_PathFrom_E2 (numsB (jnS l)) := by simpa [numsB] using hR
  rw [hP', ha]
  unfold gateref2_PathFrom_J1
  cases l.any fun x => decide ([46] = x)
  · cases l.any fun x => decide ([46, 46] = x)
    · simp only [Bool.or_self, Bool.false_eq_true, if_false]
      rw [if_pos (by omega), hR']
      obtain ⟨r, hr⟩ := hE.2
      exact ⟨r, by rw [hE.1, hr], hr⟩
    · exact ⟨_, rfl, rfl⟩
  · exact ⟨_, rfl, rfl⟩
end Go.Proofs.YtbejggfkfaibeaaGreatDoor
