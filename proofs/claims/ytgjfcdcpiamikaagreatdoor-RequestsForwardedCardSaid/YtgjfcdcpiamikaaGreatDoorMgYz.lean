/- Plain: messages: tokens, fields, headers, paths, queries and hosts: the program and the reference agree. -/
import Derived.Test.YtgjfcdcpiamikaaGreatDoorKeYz
import Derived.Test.YtgjfcdcpiamikaaGreatDoorWoYz
namespace Go.Proofs.YtgjfcdcpiamikaaGreatDoor
set_option linter.unusedVariables false
set_option maxRecDepth 20000
/-- tokens -/
def tokL : Bs := [97, 98, 99, 100, 101, 102, 103, 104, 105, 106, 107, 108, 109, 110, 111, 112, 113, 114, 115, 116, 117, 118, 119, 120, 121, 122, 65, 66, 67, 68, 69, 70, 71, 72, 73, 74, 75, 76, 77, 78, 79, 80, 81, 82, 83, 84, 85, 86, 87, 88, 89, 90, 48, 49, 50, 51, 52, 53, 54, 55, 56, 57, 33, 35, 36, 37, 38, 39, 42, 43, 45, 46, 94, 95, 96, 124, 126]
def tokB (s : Bs) : Bool := s.all (fun c => tokL.contains c) && (decide (s ≠ []) && decide ((s.length : Int) ≤ 100))
theorem tokbyte_eq (c : UInt8) : m_message_isTokenByte (c.toNat : Int) = some (tokL.contains c) := by
  have := u8_all (fun c => decide (m_message_isTokenByte (c.toNat : Int) = some (tokL.contains c))) (by decide +kernel) c
  exact of_decide_eq_true this
theorem isToken_eq (s : Bs) (h : s.length ≤ 1000000000) : m_message_IsToken s = some (tokB s) := by
  unfold m_message_IsToken
  rw [if_pos h, forL_all (p := fun _ c => tokL.contains c) (e := (decide (s ≠ []) && decide ((s.length : Int) ≤ 100))) (r0 := false) rfl s 0 (fun j x _ _ => ?_), allI_all]
  · unfold tokB
    cases s.all fun c => tokL.contains c <;> rfl
  · unfold message_IsToken_L1
    rw [tokbyte_eq]
    simp only [Option.bind_some]
    cases tokL.contains x <;> rfl
theorem token_eq (s : Bs) (h : s.length ≤ 1000000000) : m_gateref2_Token s = some (tokB s) := by
  unfold m_gateref2_Token gateref2_Token_J1
  rw [in_eq]
  simp only [Option.bind_some]
  have ho := only_eq s tokL h
  have hc : (!outP (s.length : Int) 1 100) = (decide (s ≠ []) && decide ((s.length : Int) ≤ 100)) := by
    rw [outP_in]
    cases s with
    | nil => rfl
    | cons a l => simp; omega
  rw [hc]
  unfold tokB
  cases (decide (s ≠ []) && decide ((s.length : Int) ≤ 100))
  · simp
  · simp only [if_true, Bool.and_true]
    show (m_gateref2_only s tokL).bind _ = _
    rw [ho]; rfl
/-- bytes within bounds -/
def rgB (s : Bs) (lo hi : Int) : Bool := s.all fun c => !outP (c.toNat : Int) lo hi
theorem isRange_eq (s : Bs) (lo hi : Int) (h : s.length ≤ 1000000000) : m_message_isRange s lo hi = some (rgB s lo hi) := by
  unfold m_message_isRange message_isRange_E1
  rw [if_pos h, forL_all (p := fun _ c => !outP (c.toNat : Int) lo hi) (e := true) (r0 := false) rfl s 0 (fun j x _ _ => ?_), allI_all]
  · unfold rgB
    cases s.all fun c => !outP (c.toNat : Int) lo hi <;> rfl
  · unfold message_isRange_L1 message_isRange_J2 outP
    by_cases h1 : (x.toNat : Int) < lo <;> by_cases h2 : hi < (x.toNat : Int) <;> simp [h1, h2]
theorem visible_eq (s : Bs) (lo : Int) : m_gateref2_visible s lo = m_message_isRange s lo 126 := rfl
theorem rg_asc {s : Bs} {lo : Int} (h : rgB s lo 126 = true) : ascB s = true := by
  unfold rgB at h
  unfold ascB
  rw [List.all_eq_true] at h ⊢
  intro c hc
  have := h c hc
  unfold outP at this
  simp at this ⊢
  omega
/-- fields -/
def fldB (s : Bs) : Bool := decide ((s.length : Int) ≤ 2000) && (rgB s 32 126 && decide (trL 32 (trR 32 s) = s))
theorem isField_eq (s : Bs) (h : s.length ≤ 1000000000) : m_message_IsField s = some (fldB s) := by
  unfold m_message_IsField message_IsField_J1 fldB
  rw [isRange_eq s _ _ h]
  by_cases h1 : (s.length : Int) ≤ 2000
  · rw [if_pos (by simpa using h1)]
    simp only [Option.bind_some]
    cases rgB s 32 126
    · simp
    · rw [if_pos rfl, trim_eq 32 (by decide) s h]
      simp [h1]
  · rw [if_neg (by simpa using h1)]
    simp [h1]
theorem field_eq (s : Bs) : m_gateref2_Field s = m_message_IsField s := rfl
/-- headers -/
def hdP (h : S_api_Header) : Prop := h.Name.length ≤ 100000 ∧ h.Value.length ≤ 100000
def hdsP (l : List S_api_Header) : Prop := l.length ≤ 1000 ∧ ∀ h, h ∈ l → hdP h
def hdE (h : S_api_Header) : Int := if tokB h.Name then (if fldB h.Value then 0 else 3) else 5
def hdsE (l : List S_api_Header) : Int := if 50 < (l.length : Int) then 2 else feI (fun _ h => hdE h) 0 l
theorem headers_eq (l : List S_api_Header) (h : hdsP l) : m_message_CheckHeaders l = some (hdsE l) ∧ m_gateref2_HeadersFault l = some (hdsE l) := by
  constructor
  · unfold m_message_CheckHeaders message_CheckHeaders_E1 hdsE
    by_cases h0 : 50 < (l.length : Int)
    · rw [if_pos (by simpa using h0), if_pos h0]
    · rw [if_neg (by simpa using h0), if_neg h0, if_pos (by have := h.1; omega)]
      refine forL_fe rfl l 0 fun j x _ hj => ?_
      obtain ⟨h1, h2⟩ := h.2 x (List.mem_of_getElem? hj)
      unfold message_CheckHeaders_L1 hdE
      rw [isToken_eq _ (by omega), isField_eq _ (by omega)]
      simp only [Option.bind_some]
      cases tokB x.Name <;> cases fldB x.Value <;> simp
  · unfold m_gateref2_HeadersFault gateref2_HeadersFault_E1 hdsE
    by_cases h0 : 50 < (l.length : Int)
    · rw [if_pos (by simpa using h0), if_pos h0]
    · rw [if_neg (by simpa using h0), if_neg h0, if_pos (by have := h.1; omega)]
      refine forL_fe rfl l 0 fun j x _ hj => ?_
      obtain ⟨h1, h2⟩ := h.2 x (List.mem_of_getElem? hj)
      unfold gateref2_HeadersFault_L1 hdE
      rw [token_eq _ (by omega), field_eq, isField_eq _ (by omega)]
      simp only [Option.bind_some]
      cases tokB x.Name <;> cases fldB x.Value <;> simp
/-- paths -/
def pthB (s : Bs) : Bool := decide ((s.length : Int) ≤ 1000) && (Lib.hasPrefix s [47] && (rgB s 33 126 && !Lib.containsAny s [63, 35]))
theorem path_any (s : Bs) (h : s.length ≤ 1000000000) (hr : rgB s 33 126 = true) : m_strings_ContainsAny s [63, 35] = some (Lib.containsAny s [63, 35]) := by
  unfold m_strings_ContainsAny
  rw [if_pos ⟨⟨h, by simp⟩, rg_asc hr, rfl⟩]
theorem pathFault_eq (s : Bs) (h : s.length ≤ 1000000000) : m_message_PathFault s = some (if pthB s then 0 else 3) := by
  unfold m_message_PathFault message_PathFault_J1 pthB m_strings_HasPrefix
  rw [isRange_eq s _ _ h]
  by_cases h1 : 1000 < (s.length : Int)
  · have h2 : ¬ (s.length : Int) ≤ 1000 := by omega
    rw [if_pos (by simpa using h1)]
    simp [h2]
  · have h2 : (s.length : Int) ≤ 1000 := by omega
    rw [if_neg (by simpa using h1)]
    simp only [Option.bind_some]
    cases Lib.hasPrefix s [47]
    · simp
    · cases hr : rgB s 33 126
      · simp
      · rw [path_any s h hr]
        cases hc : Lib.containsAny s [63, 35] <;> simp [h2]
theorem pathForm_eq (s : Bs) (h : s.length ≤ 1000000000) : m_gateref2_pathForm s = some (pthB s) := by
  unfold m_gateref2_pathForm gateref2_pathForm_J1 pthB
  rw [in_eq, visible_eq, isRange_eq s _ _ h]
  simp only [Option.bind_some]
  cases s with
  | nil => rfl
  | cons a l =>
    have hc : (!outP ((a :: l).length : Int) 1 1000) = decide (((a :: l).length : Int) ≤ 1000) := by
      rw [outP_in]; simp; omega
    have hp : Lib.hasPrefix (a :: l) [47] = decide ((a.toNat : Int) = 47) := by
      have := u8_all (fun a => ((47 : UInt8) == a) == decide ((a.toNat : Int) = 47)) (by decide +kernel) a
      unfold Lib.hasPrefix
      simp only [List.isPrefixOf, Bool.and_true]
      simpa using this
    rw [hc, hp, List.getElem?_cons_zero]
    simp only [Option.bind_some]
    cases decide (((a :: l).length : Int) ≤ 1000)
    · simp
    · cases decide ((a.toNat : Int) = 47)
      · simp
      · cases hr : rgB (a :: l) 33 126
        · simp
        · rw [path_any _ h hr]
          simp
/-- queries -/
def qryB (s : Bs) : Bool := decide ((s.length : Int) ≤ 1000) && (rgB s 33 126 && !Lib.contains s [35])
theorem queryFault_eq (s : Bs) (h : s.length ≤ 1000000000) : m_message_queryFault s = some (if qryB s then 0 else 3) := by
  unfold m_message_queryFault message_queryFault_J1 qryB m_strings_Contains
  rw [isRange_eq s _ _ h, if_pos h]
  by_cases h1 : 1000 < (s.length : Int)
  · have h2 : ¬ (s.length : Int) ≤ 1000 := by omega
    rw [if_pos (by simpa using h1)]
    simp [h2]
  · have h2 : (s.length : Int) ≤ 1000 := by omega
    rw [if_neg (by simpa using h1)]
    simp only [Option.bind_some]
    cases hr : rgB s 33 126
    · simp
    · cases hc : Lib.contains s [35] <;> simp [h2]
theorem queryForm_eq (s : Bs) (h : s.length ≤ 1000000000) : m_gateref2_queryForm s = some (qryB s) := by
  unfold m_gateref2_queryForm gateref2_queryForm_J1 qryB m_strings_Contains
  rw [visible_eq, isRange_eq s _ _ h, if_pos h]
  by_cases h1 : (s.length : Int) ≤ 1000
  · rw [if_pos (by simpa using h1)]
    simp only [Option.bind_some]
    cases hr : rgB s 33 126 <;> cases hc : Lib.contains s [35] <;> simp [h1]
  · rw [if_neg (by simpa using h1)]
    simp [h1]
end Go.Proofs.YtgjfcdcpiamikaaGreatDoor
