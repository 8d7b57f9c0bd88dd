/- Plain: messages: tokens, fields, headers, paths, queries and hosts: the program and the reference agree. -/
import Derived.Test.YthgblfklceopgaaGreatDoorKeYn
import Derived.Test.YthgblfklceopgaaGreatDoorWoYn
namespace Go.Proofs.YthgblfklceopgaaGreatDoor
set_option linter.unusedVariables false
set_option maxRecDepth 20000
def tokL : Bs := [97, 98, 99, 100, 101, 102, 103, 104, 105, 106, 107, 108, 109, 110, 111, 112, 113, 114, 115, 116, 117, 118, 119, 120, 121, 122, 65, 66, 67, 68, 69, 70, 71, 72, 73, 74, 75, 76, 77, 78, 79, 80, 81, 82, 83, 84, 85, 86, 87, 88, 89, 90, 48, 49, 50, 51, 52, 53, 54, 55, 56, 57, 33, 35, 36, 37, 38, 39, 42, 43, 45, 46, 94, 95, 96, 124, 126]
def tokB (s : Bs) : Bool := s.all (fun c => tokL.contains c) && (decide (s ≠ []) && decide ((s.length : Int) ≤ 100))
theorem zz5 (c : UInt8) : zil (c.toNat : Int) = some (tokL.contains c) := by
  have := zn9 (fun c => decide (zil (c.toNat : Int) = some (tokL.contains c))) (by decide +kernel) c
  exact of_decide_eq_true this
theorem zpb (s : Bs) (h : s.length ≤ 1000000000) : zh9 s = some (tokB s) := by
  unfold zh9
  rw [if_pos h, zsa (p := fun _ c => tokL.contains c) (e := (decide (s ≠ []) && decide ((s.length : Int) ≤ 100))) (r0 := false) rfl s 0 (fun j x _ _ => ?_), zwl]
  · unfold tokB
    cases s.all fun c => tokL.contains c <;> rfl
  · unfold zlb
    rw [zz5]
    simp only [Option.bind_some]
    cases tokL.contains x <;> rfl
theorem zvn (s : Bs) (h : s.length ≤ 1000000000) : zi3 s = some (tokB s) := by
  unfold zi3 zjh
  rw [z8j]
  simp only [Option.bind_some]
  have ho := z1v s tokL h
  have hc : (!outP (s.length : Int) 1 100) = (decide (s ≠ []) && decide ((s.length : Int) ≤ 100)) := by
    rw [zyd]
    cases s with
    | nil => rfl
    | cons a l => simp; omega
  rw [hc]
  unfold tokB
  cases (decide (s ≠ []) && decide ((s.length : Int) ≤ 100))
  · simp
  · simp only [if_true, Bool.and_true]
    show (zf7 s tokL).bind _ = _
    rw [ho]; rfl
def rgB (s : Bs) (lo hi : Int) : Bool := s.all fun c => !outP (c.toNat : Int) lo hi
theorem zpc (s : Bs) (lo hi : Int) (h : s.length ≤ 1000000000) : zfr s lo hi = some (rgB s lo hi) := by
  unfold zfr zla
  rw [if_pos h, zsa (p := fun _ c => !outP (c.toNat : Int) lo hi) (e := true) (r0 := false) rfl s 0 (fun j x _ _ => ?_), zwl]
  · unfold rgB
    cases s.all fun c => !outP (c.toNat : Int) lo hi <;> rfl
  · unfold zk9 zir outP
    by_cases h1 : (x.toNat : Int) < lo <;> by_cases h2 : hi < (x.toNat : Int) <;> simp [h1, h2]
theorem zu0 (s : Bs) (lo : Int) : zev s lo = zfr s lo 126 := rfl
theorem z5r {s : Bs} {lo : Int} (h : rgB s lo 126 = true) : ascB s = true := by
  unfold rgB at h
  unfold ascB
  rw [List.all_eq_true] at h ⊢
  intro c hc
  have := h c hc
  unfold outP at this
  simp at this ⊢
  omega
def fldB (s : Bs) : Bool := decide ((s.length : Int) ≤ 2000) && (rgB s 32 126 && decide (trL 32 (trR 32 s) = s))
theorem zpd (s : Bs) (h : s.length ≤ 1000000000) : zgn s = some (fldB s) := by
  unfold zgn zg6 fldB
  rw [zpc s _ _ h]
  by_cases h1 : (s.length : Int) ≤ 2000
  · rw [if_pos (by simpa using h1)]
    simp only [Option.bind_some]
    cases rgB s 32 126
    · simp
    · rw [if_pos rfl, z0z 32 (by decide) s h]
      simp [h1]
  · rw [if_neg (by simpa using h1)]
    simp [h1]
theorem zwc (s : Bs) : zjq s = zgn s := rfl
def hdP (h : zaf) : Prop := h.Name.length ≤ 100000 ∧ h.Value.length ≤ 100000
def hdsP (l : List zaf) : Prop := l.length ≤ 1000 ∧ ∀ h, h ∈ l → hdP h
def hdE (h : zaf) : Int := if tokB h.Name then (if fldB h.Value then 0 else 3) else 5
def hdsE (l : List zaf) : Int := if 50 < (l.length : Int) then 2 else feI (fun _ h => hdE h) 0 l
theorem zsu (l : List zaf) (h : hdsP l) : zf5 l = some (hdsE l) ∧ zft l = some (hdsE l) := by
  constructor
  · unfold zf5 zja hdsE
    by_cases h0 : 50 < (l.length : Int)
    · rw [if_pos (by simpa using h0), if_pos h0]
    · rw [if_neg (by simpa using h0), if_neg h0, if_pos (by have := h.1; omega)]
      refine zyp rfl l 0 fun j x _ hj => ?_
      obtain ⟨h1, h2⟩ := h.2 x (List.mem_of_getElem? hj)
      unfold zi9 hdE
      rw [zpb _ (by omega), zpd _ (by omega)]
      simp only [Option.bind_some]
      cases tokB x.Name <;> cases fldB x.Value <;> simp
  · unfold zft zi0 hdsE
    by_cases h0 : 50 < (l.length : Int)
    · rw [if_pos (by simpa using h0), if_pos h0]
    · rw [if_neg (by simpa using h0), if_neg h0, if_pos (by have := h.1; omega)]
      refine zyp rfl l 0 fun j x _ hj => ?_
      obtain ⟨h1, h2⟩ := h.2 x (List.mem_of_getElem? hj)
      unfold ziz hdE
      rw [zvn _ (by omega), zwc, zpd _ (by omega)]
      simp only [Option.bind_some]
      cases tokB x.Name <;> cases fldB x.Value <;> simp
def pthB (s : Bs) : Bool := decide ((s.length : Int) ≤ 1000) && (Lib.hasPrefix s [47] && (rgB s 33 126 && !Lib.containsAny s [63, 35]))
theorem zzg (s : Bs) (h : s.length ≤ 1000000000) (hr : rgB s 33 126 = true) : zgm s [63, 35] = some (Lib.containsAny s [63, 35]) := by
  unfold zgm
  rw [if_pos ⟨⟨h, by simp⟩, z5r hr, rfl⟩]
theorem zqm (s : Bs) (h : s.length ≤ 1000000000) : zgd s = some (if pthB s then 0 else 3) := by
  unfold zgd zei pthB zmb
  rw [zpc s _ _ h]
  by_cases h1 : 1000 < (s.length : Int)
  · have h2 : ¬ (s.length : Int) ≤ 1000 := by omega
    rw [if_pos (by simpa using h1)]
    simp [h2]
  · have h2 : (s.length : Int) ≤ 1000 := by omega
    rw [if_neg (by simpa using h1)]
    simp only [Option.bind_some]
    cases Lib.hasPrefix s [47]
    · simp
    · cases hr : rgB s 33 126
      · simp
      · rw [zzg s h hr]
        cases hc : Lib.containsAny s [63, 35] <;> simp [h2]
theorem zua (s : Bs) (h : s.length ≤ 1000000000) : zib s = some (pthB s) := by
  unfold zib zel pthB
  rw [z8j, zu0, zpc s _ _ h]
  simp only [Option.bind_some]
  cases s with
  | nil => rfl
  | cons a l =>
    have hc : (!outP ((a :: l).length : Int) 1 1000) = decide (((a :: l).length : Int) ≤ 1000) := by
      rw [zyd]; simp; omega
    have hp : Lib.hasPrefix (a :: l) [47] = decide ((a.toNat : Int) = 47) := by
      have := zn9 (fun a => ((47 : UInt8) == a) == decide ((a.toNat : Int) = 47)) (by decide +kernel) a
      unfold Lib.hasPrefix
      simp only [List.isPrefixOf, Bool.and_true]
      simpa using this
    rw [hc, hp, List.getElem?_cons_zero]
    simp only [Option.bind_some]
    cases decide (((a :: l).length : Int) ≤ 1000)
    · simp
    · cases decide ((a.toNat : Int) = 47)
      · simp
      · cases hr : rgB (a :: l) 33 126
        · simp
        · rw [zzg _ h hr]
          simp
def qryB (s : Bs) : Bool := decide ((s.length : Int) ≤ 1000) && (rgB s 33 126 && !Lib.contains s [35])
theorem zr5 (s : Bs) (h : s.length ≤ 1000000000) : zcd s = some (if qryB s then 0 else 3) := by
  unfold zcd zcg qryB zf1
  rw [zpc s _ _ h, if_pos h]
  by_cases h1 : 1000 < (s.length : Int)
  · have h2 : ¬ (s.length : Int) ≤ 1000 := by omega
    rw [if_pos (by simpa using h1)]
    simp [h2]
  · have h2 : (s.length : Int) ≤ 1000 := by omega
    rw [if_neg (by simpa using h1)]
    simp only [Option.bind_some]
    cases hr : rgB s 33 126
    · simp
    · cases hc : Lib.contains s [35] <;> simp [h2]
theorem zw6 (s : Bs) (h : s.length ≤ 1000000000) : zce s = some (qryB s) := by
  unfold zce zci qryB zf1
  rw [zu0, zpc s _ _ h, if_pos h]
  by_cases h1 : (s.length : Int) ≤ 1000
  · rw [if_pos (by simpa using h1)]
    simp only [Option.bind_some]
    cases hr : rgB s 33 126 <;> cases hc : Lib.contains s [35] <;> simp [h1]
  · rw [if_neg (by simpa using h1)]
    simp [h1]
end Go.Proofs.YthgblfklceopgaaGreatDoor
