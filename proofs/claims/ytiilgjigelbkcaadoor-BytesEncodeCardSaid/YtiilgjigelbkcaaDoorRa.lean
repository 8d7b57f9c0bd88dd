/- Plain: secrets, signers: the program and the reference agree; the law SignersRotate is true for every list of numbers. -/
import Derived.Test.YtiilgjigelbkcaaDoorKe
namespace Go.Proofs.YtiilgjigelbkcaaDoor
set_option linter.unusedVariables false
set_option maxRecDepth 20000

def badB (c : UInt8) : Bool := decide ((c.toNat : Int) < 33) || decide (126 < (c.toNat : Int))
def secF (s : Bs) : Int := if s = [] ∨ s.any badB = true then 3 else if 100 < s.length then 2 else 0
theorem all_bad (s : Bs) : (s.all fun c => !badB c) = !s.any badB := by
  induction s with
  | nil => rfl
  | cons c s ih => simp only [List.all_cons, List.any_cons, ih, Bool.not_or]
theorem secP_eq (s : Bs) (h : s.length ≤ 1000000000) : m_token_secretFault s = some (secF s) := by
  unfold m_token_secretFault
  rw [if_pos h, forL_all (p := fun _ c => !badB c) (r0 := 3) (e := if s = [] then 3 else if 100 < s.length then 2 else 0) ?_ s 0 fun j x _ _ => ?_]
  · rw [allI_all (fun c => !badB c), all_bad]
    unfold secF
    cases s.any badB
    · by_cases h1 : s = [] <;> simp [h1]
    · simp
  · unfold token_secretFault_E1
    by_cases h1 : s = []
    · simp [h1]
    · by_cases h2 : 100 < s.length
      · have : (100 : Int) < s.length := by omega
        simp [h1, h2, this]
      · have : ¬ (100 : Int) < s.length := by omega
        simp [h1, h2, this]
  · unfold token_secretFault_L1 token_secretFault_J2 badB
    by_cases h1 : (x.toNat : Int) < 33
    · simp [h1]
    · by_cases h2 : 126 < (x.toNat : Int) <;> simp [h1, h2]
theorem visR_eq (s : Bs) (h : s.length ≤ 1000000000) : m_gateref2_visible s 33 = some (!s.any badB) := by
  unfold m_gateref2_visible
  rw [if_pos h, forL_all (p := fun _ c => !badB c) (r0 := false) (e := true) rfl s 0 fun j x _ _ => ?_]
  · rw [allI_all (fun c => !badB c), all_bad]
    cases s.any badB <;> rfl
  · unfold gateref2_visible_L1 gateref2_visible_J2 badB
    by_cases h1 : (x.toNat : Int) < 33
    · simp [h1]
    · by_cases h2 : 126 < (x.toNat : Int) <;> simp [h1, h2]
theorem secR_eq (s : Bs) (h : s.length ≤ 1000000000) : m_gateref2_SecretFault s = some (secF s) := by
  unfold m_gateref2_SecretFault
  have hJ : ∀ b, secF s = (if b = true then 3 else if 100 < s.length then 2 else 0) → gateref2_SecretFault_J1 s b = some (secF s) := by
    intro b hb
    rw [hb]
    unfold gateref2_SecretFault_J1
    cases b
    · by_cases h2 : 100 < s.length
      · have : (100 : Int) < s.length := by omega
        simp [h2, this]
      · have : ¬ (100 : Int) < s.length := by omega
        simp [h2, this]
    · rfl
  by_cases h1 : s = []
  · rw [if_pos (by simpa using h1)]
    exact hJ true (by unfold secF; simp [h1])
  · rw [if_neg (by simpa using h1), visR_eq s h]
    refine hJ _ ?_
    unfold secF
    cases s.any badB <;> simp [h1]

section
end
theorem signed_eq : m_gatelaw2_signed = some true := by
  have h : m_token_Encode [97, 98] = some [89, 87, 73] := by
    unfold m_token_Encode
    exact iter_some.2 ⟨2, by decide +kernel⟩
  unfold m_gatelaw2_signed
  rw [h]
  decide +kernel
theorem secret_ok {k : Int} {s : S_gatemake_Stream} (h : SB k s) (hk : k ≤ 1000000) : Ok (m_gatemake_Stream_Secret s) fun r => r.1.length ≤ 1000 ∧ SB (k + 1) r.2 := by
  unfold m_gatemake_Stream_Secret m_strings_Repeat
  rw [if_pos (by decide)]
  simp only [Option.bind_some]
  refine ok_bind (some_ok h (by omega) _ ⟨by simp, by simp⟩) fun r hr => ok_some ⟨?_, hr.2⟩
  have h1 := hr.1
  simp only [List.mem_cons, List.not_mem_nil, or_false] at h1
  simp only
  rcases h1 with h1 | h1 | h1 | h1 | h1 | h1 | h1 | h1 | h1 <;> rw [h1] <;> first | decide | (rw [Lib.repeatL_length]; decide)
end Go.Proofs.YtiilgjigelbkcaaDoor
