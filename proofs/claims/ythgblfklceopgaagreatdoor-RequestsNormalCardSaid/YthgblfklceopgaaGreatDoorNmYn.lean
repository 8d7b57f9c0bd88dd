/- Plain: names of headers: alike or not, the program and the reference agree; headers with a name left out. -/
import Derived.Test.YthgblfklceopgaaGreatDoorMgYn
import Derived.Test.YthgblfklceopgaaGreatDoorSpYn
namespace Go.Proofs.YthgblfklceopgaaGreatDoor
set_option linter.unusedVariables false
set_option maxRecDepth 20000
abbrev lo (s : Bs) : Bs := Lib.toLowerA s
theorem z11 (x : UInt8) : (Lib.lowerB x).toNat = if 65 ≤ x.toNat ∧ x.toNat ≤ 90 then x.toNat + 32 else x.toNat := by
  have := zn9 (fun x => decide ((Lib.lowerB x).toNat = if 65 ≤ x.toNat ∧ x.toNat ≤ 90 then x.toNat + 32 else x.toNat)) (by decide +kernel) x
  exact of_decide_eq_true this
theorem z4r (x y : UInt8) : Lib.foldEq x y = decide (Lib.lowerB x = Lib.lowerB y) := by
  unfold Lib.foldEq
  refine decide_eq_decide.2 ?_
  rw [← UInt8.toNat_inj, z11, z11]
  split <;> split <;> omega
theorem z50 : ∀ a b : Bs, Lib.equalFold a b = decide (lo a = lo b)
  | [], [] => rfl
  | [], y :: t => by simp [Lib.equalFold, lo, Lib.toLowerA]
  | x :: s, [] => by simp [Lib.equalFold, lo, Lib.toLowerA]
  | x :: s, y :: t => by
    have ih := z50 s t
    show (Lib.foldEq x y && Lib.equalFold s t) = _
    rw [z4r, ih]
    unfold lo Lib.toLowerA
    simp only [List.map_cons, List.cons.injEq]
    by_cases h1 : Lib.lowerB x = Lib.lowerB y <;> simp [h1]
theorem zxs {s : Bs} (h : tokB s = true) : ascB s = true := by
  unfold tokB at h
  simp only [Bool.and_eq_true] at h
  unfold ascB
  refine List.all_eq_true.2 fun c hc => ?_
  have h1 := List.all_eq_true.1 h.1 c hc
  have h2 := zn9 (fun c => !tokL.contains c || decide (c.toNat < 128)) (by decide +kernel) c
  rw [h1] at h2
  simpa using h2
theorem z6e {s : Bs} (h : tokB s = true) : s.length ≤ 100 := by
  unfold tokB at h
  simp only [Bool.and_eq_true, decide_eq_true_eq] at h
  omega
def nmB (n : Bs) (h : zaf) : Bool := decide (lo h.Name = lo n)
def nmOK (h : zaf) : Prop := ascB h.Name = true ∧ h.Name.length ≤ 100000
theorem ztn (h : zaf) (n : Bs) (h1 : nmOK h) (h2 : ascB n = true) : zh7 h n = some (nmB n h) := by
  unfold zh7 zku
  rw [if_pos ⟨by have := h1.2; omega, h1.1, h2⟩]
  simp only [Option.bind_some, z50]
  rfl
theorem zwm (a b : Bs) (ha : ascB a = true ∧ a.length ≤ 100000) (hb : ascB b = true ∧ b.length ≤ 100000) : zi2 a b = some (decide (lo a = lo b)) := by
  unfold zi2 zda
  rw [if_pos ⟨by omega, ha.1⟩]
  simp only [Option.bind_some]
  rw [if_pos ⟨by omega, hb.1⟩]
  rfl
theorem zz2 (l : List zaf) (n : Bs) (hl : l.length ≤ 1000000) (h : ∀ x, x ∈ l → nmOK x) (hn : ascB n = true) : zkh l n = some (l.filter fun x => !nmB n x) := by
  unfold zkh zee
  rw [if_pos (by omega)]
  simp only [Option.bind_some]
  have e : zbn l (fun (a0 : zaf) => zgc a0 n) = some (l.filter fun x => !nmB n x) :=
    zwb (zaf.mk [] []) l (p := fun (a0 : zaf) => zgc a0 n) (nmB n) (by omega) fun x hx => by
      unfold zgc
      rw [ztn x n (h x hx) hn]; rfl
  rw [e]; rfl
theorem z8l {l : List zaf} (h : hdsE l = 0) : ∀ x, x ∈ l → tokB x.Name = true ∧ fldB x.Value = true := by
  unfold hdsE at h
  split at h
  · cases h
  · have key : ∀ (l : List zaf) (k : Nat), feI (fun _ h => hdE h) k l = 0 → ∀ x, x ∈ l → hdE x = 0 := by
      intro l
      induction l with
      | nil => intro _ _ x hx; cases hx
      | cons y l ih =>
        intro k h x hx
        unfold feI at h
        split at h
        · rename_i h1; exact absurd h h1
        · rename_i h1
          rcases List.mem_cons.1 hx with rfl | hx
          · exact Classical.byContradiction h1
          · exact ih (k + 1) h x hx
    intro x hx
    have h1 := key l 0 h x hx
    unfold hdE at h1
    cases ht : tokB x.Name
    · rw [ht] at h1; cases h1
    · cases hf : fldB x.Value
      · rw [ht, hf] at h1; cases h1
      · exact ⟨rfl, rfl⟩
theorem z7f {l : List zaf} (h : hdsE l = 0) : l.length ≤ 50 := by
  unfold hdsE at h
  split at h
  · cases h
  · omega
theorem z7m {s : Bs} (h : fldB s = true) : s.length ≤ 2000 := by
  unfold fldB at h
  simp only [Bool.and_eq_true, decide_eq_true_eq] at h
  omega
end Go.Proofs.YthgblfklceopgaaGreatDoor
