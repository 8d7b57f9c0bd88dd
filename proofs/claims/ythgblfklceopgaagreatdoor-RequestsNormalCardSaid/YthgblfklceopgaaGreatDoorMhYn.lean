/- Plain: hosts of the streams: the program and the reference agree; streams of headers, requests and responses. -/
import Derived.Test.YthgblfklceopgaaGreatDoorMgYn
namespace Go.Proofs.YthgblfklceopgaaGreatDoor
set_option linter.unusedVariables false
set_option maxRecDepth 20000
noncomputable def zuj (s : Bs) : Option Bool :=
  forL (fun (k : Nat) (x : Bs) (_ : Unit) => zlr k x) (fun (_ : Unit) => zls s (Lib.cut s [58])) 0 (spl 46 (Lib.cut s [58]).1) ()
noncomputable def zzm (k : Nat) (x : Bs) : Option (Unit ⊕ (Bs × Int)) :=
  (zg8 (x.length : Int) 1 63).bind fun r33 => if !r33 then (ze0 true) else ((zf7 x [97, 98, 99, 100, 101, 102, 103, 104, 105, 106, 107, 108, 109, 110, 111, 112, 113, 114, 115, 116, 117, 118, 119, 120, 121, 122, 65, 66, 67, 68, 69, 70, 71, 72, 73, 74, 75, 76, 77, 78, 79, 80, 81, 82, 83, 84, 85, 86, 87, 88, 89, 90, 48, 49, 50, 51, 52, 53, 54, 55, 56, 57, 45]).bind fun r37 => if !r37 then (ze0 true) else (ze0 (decide (trL 45 (trR 45 x) ≠ x))))
theorem z2c (k : Nat) (x : Bs) (h : x.length ≤ 1000000000) : zix k x = zzm k x := by
  unfold zix zzm
  rw [z0z 45 (by decide) x h]
  rfl
noncomputable def zu8 (r2 : (Bs × Bs × Bool)) (r4 : (Int × Bool)) (v17 : Bool) : Option (Bs × Int) :=
  if v17 then (some ([], 3)) else (if (spl 46 r2.1).length ≤ 1000000000 then forL (fun (k : Nat) (x : Bs) (_ : Unit) => zzm k x) (fun (_ : Unit) => ziy r2 r4) 0 (spl 46 r2.1) () else none)
theorem z2d (r2 : (Bs × Bs × Bool)) (r4 : (Int × Bool)) (v : Bool) (h : r2.1.length ≤ 100000) : ze1 r2 r4 v = zu8 r2 r4 v := by
  unfold ze1 zu8 zb8
  cases v
  case true => rfl
  simp only [Bool.false_eq_true, if_false]
  rw [if_pos (c := r2.1.length ≤ 1000000000 ∧ _) ⟨by omega, by simp⟩, zo3]
  simp only [Option.bind_some]
  have : forL (fun (k : Nat) (x : Bs) (_ : Unit) => zix k x) (fun (_ : Unit) => ziy r2 r4) 0 (spl 46 r2.1) () = forL (fun (k : Nat) (x : Bs) (_ : Unit) => zzm k x) (fun (_ : Unit) => ziy r2 r4) 0 (spl 46 r2.1) () := by
    refine zsv (fun _ => rfl) _ 0 () fun j x s _ hj => ?_
    have := zqj 46 r2.1 x (List.mem_of_getElem? hj)
    exact z2c j x (by omega)
  rw [this]
noncomputable def zwa (v1 : Bs) : Option (Bs × Int) :=
  (zlv (Lib.cut v1 [58]).2.1 5).bind fun r4 => if decide (255 < (v1.length : Int)) then (zu8 (Lib.cut v1 [58]) r4 true) else (if (Lib.cut v1 [58]).2.2 then (if !r4.2 then (zu8 (Lib.cut v1 [58]) r4 true) else ((zg8 r4.1 1 65535).bind fun r12 => zu8 (Lib.cut v1 [58]) r4 (!r12))) else (zu8 (Lib.cut v1 [58]) r4 false))
theorem zzt (s : Bs) (c : UInt8) : (Lib.cut s [c]).1.length ≤ s.length := by
  unfold Lib.cut
  split
  · simp; omega
  · exact Nat.le_refl _
theorem zui (s : Bs) (h : s.length ≤ 100000) : zi1 s = zuj s := by
  have h1 := zzt s 58
  have h2 := zvt 46 (Lib.cut s [58]).1
  unfold zi1 zuj zga zb8
  rw [if_pos (by omega)]
  simp only [Option.bind_some]
  rw [if_pos ⟨by omega, by simp⟩, zo3]
  simp only [Option.bind_some]
  rw [if_pos (by omega)]
theorem zxd (s : Bs) (h : s.length ≤ 100000) : zgp s = zwa s := by
  have h1 := zzt s 58
  unfold zgp zwa zga
  rw [if_pos (by omega)]
  simp only [Option.bind_some]
  congr 1
  funext r4
  simp only [z2d _ _ _ (show (Lib.cut s [58]).1.length ≤ 100000 by omega)]
def zrj : List Bs := [[65, 46, 66, 58, 56, 48], [99, 46, 100], [97, 46, 98], [65, 46, 66], [97, 46, 98, 58, 56, 48], [99, 46, 100, 58, 56, 48, 56, 48], [115, 104, 111, 112, 46, 101, 120, 97, 109, 112, 108, 101], [97, 46, 98, 58, 52, 52, 51], [97, 46, 98, 58, 56, 48, 56, 48], [120, 45, 49, 46, 121], [49, 46, 50, 46, 51, 46, 52], [], [97, 46, 46, 98], [45, 97, 46, 98], [97, 46, 98, 58, 48], [97, 46, 98, 58, 48, 56], [97, 46, 98, 58, 54, 53, 53, 51, 54], [97, 95, 98], [97, 46, 98, 58], [97, 32, 98], List.replicate 64 97]
noncomputable def z5y (s : Bs) : Bool := match zuj s, zwa s with
  | some b, some r => r.2 == (if b then 0 else 3)
  | _, _ => false
theorem z4n : zrj.all z5y = true := by decide +kernel
theorem zul : zrj.all (fun s => decide (s.length ≤ 1000)) = true := by decide +kernel
theorem zum {s : Bs} (h : s ∈ zrj) : ∃ b r, zi1 s = some b ∧ zgp s = some r ∧ r.2 = if b then 0 else 3 := by
  have h1 := List.all_eq_true.1 z4n s h
  have h2 := of_decide_eq_true (List.all_eq_true.1 zul s h)
  rw [zui s (by omega), zxd s (by omega)]
  unfold z5y at h1
  split at h1
  · rename_i b r e1 e2
    exact ⟨b, r, e1, e2, by simpa using h1⟩
  · cases h1
end Go.Proofs.YthgblfklceopgaaGreatDoor
