/- Plain: loops turn by turn, strings and their bytes as numbers, words joined, strings cut at a byte, trimming. -/
import Derived.Test.YtbejggfkfaibeaaGreatDoorStYh
import Derived.Test.YtbejggfkfaibeaaGreatDoorSpYh
namespace Go.Proofs.YtbejggfkfaibeaaGreatDoor
set_option linter.unusedVariables false
set_option maxRecDepth 20000
section
variable {σ ρ : Type}
theorem iter_in {body : σ → Option (σ ⊕ ρ)} {s s' : σ} (h : body s = some (.inl s')) : iter body s = iter body s' := by
  rw [iter_eq, h]; rfl
theorem iter_out {body : σ → Option (σ ⊕ ρ)} {s : σ} {r : ρ} (h : body s = some (.inr r)) : iter body s = some r := by
  rw [iter_eq, h]; rfl
end
theorem strN_nums' (l : Bs) : strN (numsB l) = l := by
  unfold strN numsB
  rw [List.map_map]
  conv => rhs; rw [← List.map_id l]
  refine List.map_congr_left fun c _ => ?_
  simp
theorem byR_nums (l : Bs) : byR (numsB l) = true := by
  unfold byR numsB
  rw [List.all_map, List.all_eq_true]
  intro c _
  have := c.toNat_lt
  simp; omega
theorem nums_len (l : Bs) : (numsB l).length = l.length := by simp [numsB]
theorem nums_app (a b : Bs) : numsB (a ++ b) = numsB a ++ numsB b := by simp [numsB]
theorem join_le (B : Nat) (sep : Bs) : ∀ l : List Bs, (∀ x, x ∈ l → x.length ≤ B) → (Lib.join l sep).length ≤ l.length * (B + sep.length)
  | [], _ => by simp [Lib.join_nil]
  | x :: r, h => by
    rw [Lib.join_cons, List.length_append]
    have h1 := h x (by simp)
    have h2 : (Lib.joinTail sep r).length ≤ r.length * (B + sep.length) := by
      have : ∀ r : List Bs, (∀ x, x ∈ r → x.length ≤ B) → (Lib.joinTail sep r).length ≤ r.length * (B + sep.length) := by
        intro r
        induction r with
        | nil => intro _; simp [Lib.joinTail]
        | cons y r ih =>
          intro hr
          have h3 := hr y (by simp)
          have h4 := ih fun z hz => hr z (by simp [hz])
          unfold Lib.joinTail at h4 ⊢
          simp only [List.map_cons, List.flatten_cons, List.length_append, List.length_cons, Nat.succ_mul]
          omega
      exact this r fun y hy => h y (by simp [hy])
    simp only [List.length_cons, Nat.succ_mul]
    omega
theorem first_occ (c : UInt8) : ∀ s : Bs, c ∉ s ∨ ∃ p q, s = p ++ c :: q ∧ c ∉ p
  | [] => .inl (by simp)
  | x :: s => by
    by_cases h : x = c
    · exact .inr ⟨[], s, by rw [h]; rfl, by simp⟩
    · rcases first_occ c s with h1 | ⟨p, q, rfl, h1⟩
      · exact .inl (by simp [h1, Ne.symm h])
      · exact .inr ⟨x :: p, q, rfl, by simp [h1, Ne.symm h]⟩
theorem idx_no (c : UInt8) : ∀ s : Bs, c ∉ s → Lib.index s [c] = -1
  | [], _ => rfl
  | x :: s, h => by
    rw [index_one, if_neg (fun e => h (by simp [e])), idx_no c s (fun e => h (by simp [e]))]
    try rfl
theorem idx_app (c : UInt8) (q : Bs) : ∀ p : Bs, c ∉ p → Lib.index (p ++ c :: q) [c] = (p.length : Int)
  | [], _ => by rw [List.nil_append, index_one, if_pos rfl]; rfl
  | x :: p, h => by
    rw [List.cons_append, index_one, if_neg (fun e => h (by simp [e])), idx_app c q p (fun e => h (by simp [e])), if_neg (by simp)]
    simp
theorem cut_no (c : UInt8) (s : Bs) (h : c ∉ s) : Lib.cut s [c] = (s, [], false) := by
  unfold Lib.cut
  rw [idx_no c s h]; rfl
theorem cut_app (c : UInt8) (p q : Bs) (h : c ∉ p) : Lib.cut (p ++ c :: q) [c] = (p, q, true) := by
  unfold Lib.cut
  rw [idx_app c q p h, if_pos (by omega)]
  simp
/-- trimming a byte -/
def trR (c : UInt8) (s : Bs) : Bs := (s.reverse.dropWhile (· == c)).reverse
def trL (c : UInt8) (s : Bs) : Bs := s.dropWhile (· == c)
theorem trR_nil (c : UInt8) : trR c [] = [] := rfl
theorem trR_snoc (c b : UInt8) (l : Bs) : trR c (l ++ [b]) = if b = c then trR c l else l ++ [b] := by
  unfold trR
  rw [List.reverse_append, List.reverse_singleton, List.singleton_append, List.dropWhile_cons]
  by_cases h : b = c
  · simp [h]
  · simp [h]
theorem trR_len (c : UInt8) (s : Bs) : (trR c s).length ≤ s.length := by
  unfold trR
  rw [List.length_reverse]
  have := (List.dropWhile_sublist (l := s.reverse) (· == c)).length_le
  simpa using this
theorem spoken_eq : m_gatelaw2_spoken = some true := by
  have h1 : m_message_PathFault [47, 97, 47, 46, 46, 47, 98] = some 0 := by decide +kernel
  have h2 : m_message_normalUnits [47, 97, 47, 46, 46, 47, 98] = some ([47, 97, 47, 46, 46, 47, 98], true) := by
    unfold m_message_normalUnits
    exact iter_some.2 ⟨9, by decide +kernel⟩
  have h3 : m_strings_Split [97, 47, 46, 46, 47, 98] [47] = some [[97], [46, 46], [98]] := by
    unfold m_strings_Split
    rw [if_pos (by decide), splitL_one]
    decide +kernel
  have h4 : sub? ([47, 97, 47, 46, 46, 47, 98] : Bs) 1 7 = some [97, 47, 46, 46, 47, 98] := by decide +kernel
  have h5 : forL (fun (k : Nat) (x : Bs) (s : (List Bs)) => message_NormalPath_L1 [[97], [46, 46], [98]] k x s) (fun (s : (List Bs)) => message_NormalPath_E1 s) 0 [[97], [46, 46], [98]] [] = some ([47, 98], 0) := by decide +kernel
  have h6 : m_message_NormalPath [47, 97, 47, 46, 46, 47, 98] = some ([47, 98], 0) := by
    unfold m_message_NormalPath
    rw [h1]
    simp only [Option.bind_some, ne_eq, not_true_eq_false, decide_false, Bool.false_eq_true, if_false, h2, Bool.not_true]
    show (sub? ([47, 97, 47, 46, 46, 47, 98] : Bs) 1 7).bind _ = _
    rw [h4]
    simp only [Option.bind_some]
    rw [h3]
    simp only [Option.bind_some]
    rw [if_pos (by decide)]
    exact h5
  unfold m_gatelaw2_spoken
  rw [h6]; rfl
end Go.Proofs.YtbejggfkfaibeaaGreatDoor
