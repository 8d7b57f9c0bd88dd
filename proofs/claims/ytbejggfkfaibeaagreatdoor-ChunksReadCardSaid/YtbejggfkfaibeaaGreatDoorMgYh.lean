/- Plain: messages: tokens, fields, headers, paths, queries and hosts: the program and the reference agree. -/
import Derived.Test.YtbejggfkfaibeaaGreatDoorKeYh
import Derived.Test.YtbejggfkfaibeaaGreatDoorWoYh
namespace Go.Proofs.YtbejggfkfaibeaaGreatDoor
set_option linter.unusedVariables false
set_option maxRecDepth 20000
/-- tokens -/
def tokL : Bs := [97, 98, 99, 100, 101, 102, 103, 104, 105, 106, 107, 108, 109, 110, 111, 112, 113, 114, 115, 116, 117, 118, 119, 120, 121, 122, 65, 66, 67, 68, 69, 70, 71, 72, 73, 74, 75, 76, 77, 78, 79, 80, 81, 82, 83, 84, 85, 86, 87, 88, 89, 90, 48, 49, 50, 51, 52, 53, 54, 55, 56, 57, 33, 35, 36, 37, 38, 39, 42, 43, 45, 46, 94, 95, 96, 124, 126]
def tokB (s : Bs) : Bool := s.all (fun c => tokL.contains c) && (decide (s ≠ []) && decide ((s.length : Int) ≤ 100))
/-- bytes within bounds -/
def rgB (s : Bs) (lo hi : Int) : Bool := s.all fun c => !outP (c.toNat : Int) lo hi
theorem isRange_eq (s : Bs) (lo hi : Int) (h : s.length ≤ 1000000000) : m_message_isRange s lo hi = some (rgB s lo hi) := by
  unfold m_message_isRange message_isRange_E1
  rw [if_pos h, forL_all (p := fun _ c => !outP (c.toNat : Int) lo hi) (e := true) (r0 := false) rfl s 0 (fun j x _ _ => ?_), allI_all]
  · unfold rgB
    cases s.all fun c => !outP (c.toNat : Int) lo hi <;> rfl
  · unfold message_isRange_L1 message_isRange_J2 outP
    by_cases h1 : (x.toNat : Int) < lo <;> by_cases h2 : hi < (x.toNat : Int) <;> simp [h1, h2]
theorem rg_asc {s : Bs} {lo : Int} (h : rgB s lo 126 = true) : ascB s = true := by
  unfold rgB at h
  unfold ascB
  rw [List.all_eq_true] at h ⊢
  intro c hc
  have := h c hc
  unfold outP at this
  simp at this ⊢
  omega
/-- fields -/
def fldB (s : Bs) : Bool := decide ((s.length : Int) ≤ 2000) && (rgB s 32 126 && decide (trL 32 (trR 32 s) = s))
/-- paths -/
def pthB (s : Bs) : Bool := decide ((s.length : Int) ≤ 1000) && (Lib.hasPrefix s [47] && (rgB s 33 126 && !Lib.containsAny s [63, 35]))
theorem path_any (s : Bs) (h : s.length ≤ 1000000000) (hr : rgB s 33 126 = true) : m_strings_ContainsAny s [63, 35] = some (Lib.containsAny s [63, 35]) := by
  unfold m_strings_ContainsAny
  rw [if_pos ⟨⟨h, by simp⟩, rg_asc hr, rfl⟩]
theorem pathFault_eq (s : Bs) (h : s.length ≤ 1000000000) : m_message_PathFault s = some (if pthB s then 0 else 3) := by
  unfold m_message_PathFault message_PathFault_J1 pthB m_strings_HasPrefix
  rw [isRange_eq s _ _ h]
  by_cases h1 : 1000 < (s.length : Int)
  · have h2 : ¬ (s.length : Int) ≤ 1000 := by omega
    rw [if_pos (by simpa using h1)]
    simp [h2]
  · have h2 : (s.length : Int) ≤ 1000 := by omega
    rw [if_neg (by simpa using h1)]
    simp only [Option.bind_some]
    cases Lib.hasPrefix s [47]
    · simp
    · cases hr : rgB s 33 126
      · simp
      · rw [path_any s h hr]
        cases hc : Lib.containsAny s [63, 35] <;> simp [h2]
/-- queries -/
def qryB (s : Bs) : Bool := decide ((s.length : Int) ≤ 1000) && (rgB s 33 126 && !Lib.contains s [35])
end Go.Proofs.YtbejggfkfaibeaaGreatDoor
