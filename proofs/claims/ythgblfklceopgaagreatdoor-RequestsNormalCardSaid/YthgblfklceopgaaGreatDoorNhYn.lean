/- Plain: hosts in their normal form. -/
import Derived.Test.YthgblfklceopgaaGreatDoorMiYn
namespace Go.Proofs.YthgblfklceopgaaGreatDoor
set_option linter.unusedVariables false
set_option maxRecDepth 20000
noncomputable def zub (s1 : Bs) : Option (Bs × Int) :=
  (zuj s1).bind fun (r2 : (Bool)) => if !r2 then (some ([], 3)) else ((zda s1).bind fun (r5 : (Bs)) => (zga r5 [58]).bind fun (r7 : (Bs × Bs × Bool)) => if (((decide (r7.2.1 = [])) || (decide (r7.2.1 = [56, 48]))) || (decide (r7.2.1 = [52, 52, 51]))) then (some (r7.1, 0)) else (if r7.1.length + [58].length ≤ 1000000000 then (if (r7.1 ++ [58]).length + r7.2.1.length ≤ 1000000000 then (some (((r7.1 ++ [58]) ++ r7.2.1), 0)) else none) else none))
noncomputable def z5x (s : Bs) : Bool := match zub s, zwa s with
  | some a, some b => decide (a = b)
  | _, _ => false
theorem z2b : zrj.all z5x = true := by decide +kernel
theorem z0j {s : Bs} (h : s ∈ zrj) : ∃ r, zhj s = some r ∧ zgp s = some r := by
  have h1 := List.all_eq_true.1 z2b s h
  have h2 := of_decide_eq_true (List.all_eq_true.1 zul s h)
  have e : zhj s = zub s := by
    unfold zhj zub
    rw [zui s (by omega)]
  rw [e, zxd s (by omega)]
  unfold z5x at h1
  split at h1
  · rename_i a b e1 e2
    exact ⟨b, by rw [e1, of_decide_eq_true h1], e2⟩
  · cases h1
end Go.Proofs.YthgblfklceopgaaGreatDoor
