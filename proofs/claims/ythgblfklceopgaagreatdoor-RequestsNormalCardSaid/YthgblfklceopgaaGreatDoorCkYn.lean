/- Plain: cookies: reading, writing, the program and the reference agree. -/
import Derived.Test.YthgblfklceopgaaGreatDoorMiYn
import Derived.Test.YthgblfklceopgaaGreatDoorHsYn
namespace Go.Proofs.YthgblfklceopgaaGreatDoor
set_option linter.unusedVariables false
set_option maxRecDepth 20000
abbrev ckL : Bs := [99, 111, 111, 107, 105, 101]
def zur (n : Bs) (l : List zaf) : List Bs := (l.filter (nmB n)).map fun x => x.Value
theorem zyx (n : Bs) (hn : ascB n = true) : ∀ (l : List zaf) (k : Nat) (q : List Bs), (∀ x, x ∈ l → nmOK x) → q.length + l.length ≤ 1000 →
    forL (fun (k : Nat) (x : zaf) (s : (List Bs)) => zh2 n k x s) (fun (s : (List Bs)) => zlt s) k l q = some (q ++ zur n l)
  | [], k, q, _, _ => by show some q = _; simp [zur]
  | x :: l, k, q, h, hl => by
    simp only [List.length_cons] at hl
    have hst : zh2 n k x q = some (.inl (if nmB n x then q ++ [x.Value] else q)) := by
      unfold zh2 zjc
      rw [ztn x n (h x (by simp)) hn]
      simp only [Option.bind_some]
      cases nmB n x
      · rfl
      · simp only [if_true]; rw [if_pos (by omega)]
    show (zh2 n k x q).bind _ = _
    rw [hst]
    have ih := zyx n hn l (k + 1) (if nmB n x then q ++ [x.Value] else q) (fun y hy => h y (List.mem_cons_of_mem _ hy)) (by split <;> first | omega | (simp only [List.length_append, List.length_cons, List.length_nil]; omega))
    refine Eq.trans ih ?_
    unfold zur
    rw [List.filter_cons]
    cases nmB n x <;> simp
theorem zyw (n : Bs) (hn : ascB n = true ∧ n.length ≤ 100000) : ∀ (l : List zaf) (k : Nat) (q : List Bs), (∀ x, x ∈ l → nmOK x) → q.length + l.length ≤ 1000 →
    forL (fun (k : Nat) (x : zaf) (s : (List Bs)) => zhe n k x s) (fun (s : (List Bs)) => zle s) k l q = some (q ++ zur n l)
  | [], k, q, _, _ => by show some q = _; simp [zur]
  | x :: l, k, q, h, hl => by
    simp only [List.length_cons] at hl
    have hst : zhe n k x q = some (.inl (if nmB n x then q ++ [x.Value] else q)) := by
      unfold zhe ziu
      rw [zwm x.Name n (h x (by simp)) hn]
      simp only [Option.bind_some]
      show (if nmB n x = true then _ else _) = _
      cases nmB n x
      · rfl
      · simp only [if_true]; rw [if_pos (by omega)]
    show (zhe n k x q).bind _ = _
    rw [hst]
    have ih := zyw n hn l (k + 1) (if nmB n x then q ++ [x.Value] else q) (fun y hy => h y (List.mem_cons_of_mem _ hy)) (by split <;> first | omega | (simp only [List.length_append, List.length_cons, List.length_nil]; omega))
    refine Eq.trans ih ?_
    unfold zur
    rw [List.filter_cons]
    cases nmB n x <;> simp
theorem z0t (l : List zaf) (n : Bs) (hl : l.length ≤ 1000) (h : ∀ x, x ∈ l → nmOK x) (hn : ascB n = true ∧ n.length ≤ 100000) : zk3 l n = some (zur n l) ∧ zkj l n = some (zur n l) := by
  constructor
  · unfold zk3
    rw [if_pos (by omega), zyx n hn.1 l 0 [] h (by simpa using hl)]; rfl
  · unfold zkj
    rw [if_pos (by omega), zyw n hn l 0 [] h (by simpa using hl)]; rfl
abbrev csL : Bs := [34, 44, 59, 92, 32]
def cvA (s : Bs) : Bool := s.any csL.contains
def cvB (s : Bs) : Bool := fldB s && !cvA s
theorem z8n {s : Bs} (h : fldB s = true) : rgB s 32 126 = true := by
  unfold fldB at h
  simp only [Bool.and_eq_true] at h
  exact h.2.1
def jl (k n : Nat) (l : List Bs) : Prop := l ≠ [] ∧ l.length ≤ k ∧ (Lib.join l scL).length ≤ n
section
end
abbrev ageL : Bs := [77, 97, 120, 45, 65, 103, 101]
def z9m (x : Bs) : Bool := decide ((Lib.cut x [61]).1 = ageL) && !okN 16 (Lib.cut x [61]).2.1
end Go.Proofs.YthgblfklceopgaaGreatDoor
