/- Plain: keys: the program and the reference agree. -/
import Derived.Test.YthgblfklceopgaaGreatDoorStYn
namespace Go.Proofs.YthgblfklceopgaaGreatDoor
set_option linter.unusedVariables false
set_option maxRecDepth 20000
def kc (i : Nat) (c : UInt8) : Bool := ((decide (97 ≤ (c.toNat : Int))) && (decide ((c.toNat : Int) ≤ 122))) || ((decide (0 < (i : Int))) && ((((decide (48 ≤ (c.toNat : Int))) && (decide ((c.toNat : Int) ≤ 57))) || (decide ((c.toNat : Int) = 45))) || (decide ((c.toNat : Int) = 95))))
def keyP (s : Bs) : Bool := allI kc 0 s && (decide (s ≠ []) && decide ((s.length : Int) ≤ 40))
def z88 : Bs := [97, 98, 99, 100, 101, 102, 103, 104, 105, 106, 107, 108, 109, 110, 111, 112, 113, 114, 115, 116, 117, 118, 119, 120, 121, 122]
def z9l : Bs := [97, 98, 99, 100, 101, 102, 103, 104, 105, 106, 107, 108, 109, 110, 111, 112, 113, 114, 115, 116, 117, 118, 119, 120, 121, 122, 48, 49, 50, 51, 52, 53, 54, 55, 56, 57, 45, 95]
theorem zn9 (p : UInt8 → Bool) (h : ((List.range 256).all fun n => p (UInt8.ofNat n)) = true) (c : UInt8) : p c = true := by
  have := List.all_eq_true.1 h c.toNat (by simp; exact c.toNat_lt)
  simpa using this
theorem z1v (s so : Bs) (h : s.length ≤ 1000000000) : zf7 s so = some (s.all fun c => so.contains c) := by
  unfold zf7
  rw [if_pos h, zsa (p := fun _ c => so.contains c) (r0 := false) (e := true) rfl s 0]
  · congr 1
    have : ∀ (l : Bs) k, allI (fun _ c => so.contains c) k l = l.all fun c => so.contains c := by
      intro l
      induction l with
      | nil => intro k; rfl
      | cons c l ih => intro k; simp only [allI, List.all_cons, ih]
    rw [this]
    cases (s.all fun c => so.contains c) <;> rfl
  · intro j x _ _
    unfold zma zgb
    simp only [Option.bind_some]
    have e1 : ((x.toNat : Int)).toNat.toUInt8 = x := by simp
    rw [e1, Lib.contains_iff_indexByte]
    by_cases hq : Lib.indexByte so x < 0
    · have : ¬ 0 ≤ Lib.indexByte so x := by omega
      simp [hq, this]
    · have : 0 ≤ Lib.indexByte so x := by omega
      simp [hq, this]
def momP (n : Int) : Bool := decide (0 ≤ n) && decide (n ≤ 345686399999)
theorem z1y (n : Int) : zlw n = some (momP n) := rfl
theorem zrt (n : Int) : zl2 n = some (momP n) := by
  unfold zl2 momP
  congr 2
  by_cases h : n < 345686400000
  · have : n ≤ 345686399999 := by omega
    simp [h, this]
  · have : ¬ n ≤ 345686399999 := by omega
    simp [h, this]
theorem z8j (n lo hi : Int) : zg8 n lo hi = some (!outP n lo hi) := by
  unfold zg8
  rw [zyd, Bool.not_not]
end Go.Proofs.YthgblfklceopgaaGreatDoor
