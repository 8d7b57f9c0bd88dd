/- Plain: parts of values between commas; two loops over two lists. -/
import Derived.Test.YthgblfklceopgaaGreatDoorCkYn
namespace Go.Proofs.YthgblfklceopgaaGreatDoor
set_option linter.unusedVariables false
set_option maxRecDepth 20000
theorem zvu (c x : UInt8) (l : Bs) : spl c (x :: l) = if x = c then [] :: spl c l else match spl c l with
    | p :: ps => (x :: p) :: ps
    | [] => [[x]] := rfl
theorem zza (c : UInt8) (b : Bs) : ∀ a : Bs, spl c (a ++ c :: b) = spl c a ++ spl c b
  | [] => by
    rw [List.nil_append, zvu, if_pos rfl]; rfl
  | x :: a => by
    rw [List.cons_append, zvu, zvu, zza c b a]
    by_cases h : x = c
    · rw [if_pos h, if_pos h]; rfl
    · rw [if_neg h, if_neg h]
      cases hq : spl c a with
      | nil => exact absurd hq (z5p c a)
      | cons p ps => rfl
theorem zy9 (c : UInt8) : ∀ l : List Bs, l ≠ [] → spl c (Lib.join l [c]) = (l.map (spl c)).flatten
  | [], h => absurd rfl h
  | [x], _ => by rw [Lib.join_one]; simp
  | x :: y :: l, _ => by
    have h : Lib.join (x :: y :: l) [c] = x ++ c :: Lib.join (y :: l) [c] := by
      rw [Lib.join_cons, Lib.join_cons]
      simp [Lib.joinTail]
    rw [h, zza, zy9 c (y :: l) (by simp)]
    simp
def tfB (l : List Bs) : List Bs := (l.map fun p => trL 32 (trR 32 p)).filter fun p => decide (p ≠ [])
def ptsB (l : List Bs) : List Bs := tfB (l.map (spl 44)).flatten
def vlP (V : List Bs) : Prop := V.length ≤ 1000 ∧ ∀ v, v ∈ V → v.length ≤ 2000
def idxB (ns : List Bs) (nm : Bs) : Int := fdx (fun x => decide (nm = x)) 0 ns
end Go.Proofs.YthgblfklceopgaaGreatDoor
