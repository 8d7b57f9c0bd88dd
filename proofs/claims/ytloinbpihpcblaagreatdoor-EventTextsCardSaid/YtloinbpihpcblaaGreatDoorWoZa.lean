/- Plain: loops turn by turn, strings and their bytes as numbers, words joined, strings cut at a byte, trimming. -/
import Derived.Test.YtloinbpihpcblaaGreatDoorStZa
import Derived.Test.YtloinbpihpcblaaGreatDoorSpZa
namespace Go.Proofs.YtloinbpihpcblaaGreatDoor
set_option linter.unusedVariables false
set_option maxRecDepth 20000
section
variable {σ ρ : Type}
end
theorem strN_nums' (l : Bs) : strN (numsB l) = l := by
  unfold strN numsB
  rw [List.map_map]
  conv => rhs; rw [← List.map_id l]
  refine List.map_congr_left fun c _ => ?_
  simp
theorem byR_nums (l : Bs) : byR (numsB l) = true := by
  unfold byR numsB
  rw [List.all_map, List.all_eq_true]
  intro c _
  have := c.toNat_lt
  simp; omega
theorem nums_len (l : Bs) : (numsB l).length = l.length := by simp [numsB]
theorem idx_no (c : UInt8) : ∀ s : Bs, c ∉ s → Lib.index s [c] = -1
  | [], _ => rfl
  | x :: s, h => by
    rw [index_one, if_neg (fun e => h (by simp [e])), idx_no c s (fun e => h (by simp [e]))]
    try rfl
theorem idx_app (c : UInt8) (q : Bs) : ∀ p : Bs, c ∉ p → Lib.index (p ++ c :: q) [c] = (p.length : Int)
  | [], _ => by rw [List.nil_append, index_one, if_pos rfl]; rfl
  | x :: p, h => by
    rw [List.cons_append, index_one, if_neg (fun e => h (by simp [e])), idx_app c q p (fun e => h (by simp [e])), if_neg (by simp)]
    simp
theorem cut_no (c : UInt8) (s : Bs) (h : c ∉ s) : Lib.cut s [c] = (s, [], false) := by
  unfold Lib.cut
  rw [idx_no c s h]; rfl
theorem cut_app (c : UInt8) (p q : Bs) (h : c ∉ p) : Lib.cut (p ++ c :: q) [c] = (p, q, true) := by
  unfold Lib.cut
  rw [idx_app c q p h, if_pos (by omega)]
  simp
def trR (c : UInt8) (s : Bs) : Bs := (s.reverse.dropWhile (· == c)).reverse
def trL (c : UInt8) (s : Bs) : Bs := s.dropWhile (· == c)
end Go.Proofs.YtloinbpihpcblaaGreatDoor
