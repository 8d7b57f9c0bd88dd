/- Plain: the law ScopesCover is true for every list of numbers. -/
import Derived.Test.YtpeeeanmfmhlgaaGreatDoorSc
namespace Go.Proofs.YtpeeeanmfmhlgaaGreatDoor
set_option linter.unusedVariables false
set_option maxRecDepth 20000
/-- the scopes that two lists both cover -/
def mtS (b : List Bs) (x : Bs) : List Bs := b.flatMap fun y => if cvB x y = true then [y] else if cvB y x = true then [x] else []
def mtL (a b : List Bs) : List Bs := a.flatMap (mtS b)
theorem mtS_len (b : List Bs) (x : Bs) : (mtS b x).length ≤ b.length := by
  induction b with
  | nil => simp [mtS]
  | cons y b ih =>
    unfold mtS at ih ⊢
    rw [List.flatMap_cons, List.length_append]
    have : (if cvB x y = true then [y] else if cvB y x = true then [x] else []).length ≤ 1 := by
      split
      · simp
      · split <;> simp
    simp only [List.length_cons]; omega
theorem mtL_len (a b : List Bs) : (mtL a b).length ≤ a.length * b.length := by
  induction a with
  | nil => simp [mtL]
  | cons x a ih =>
    unfold mtL at ih ⊢
    have := mtS_len b x
    rw [List.flatMap_cons, List.length_append, List.length_cons, Nat.succ_mul]
    omega
theorem mtL_mem {a b : List Bs} (ha : a.all scP = true) (hb : b.all scP = true) (z : Bs) : z ∈ mtL a b ↔ (z ∈ a ∨ z ∈ b) ∧ cvL a z = true ∧ cvL b z = true := by
  have ha := List.all_eq_true.1 ha
  have hb := List.all_eq_true.1 hb
  unfold mtL mtS
  simp only [List.mem_flatMap]
  unfold cvL
  simp only [List.any_eq_true]
  constructor
  · rintro ⟨x, hx, y, hy, hz⟩
    split at hz
    · rename_i h
      simp only [List.mem_singleton] at hz
      subst hz
      exact ⟨.inr hy, ⟨x, hx, h⟩, ⟨_, hy, cvB_refl _⟩⟩
    · split at hz
      · rename_i h
        simp only [List.mem_singleton] at hz
        subst hz
        exact ⟨.inl hx, ⟨_, hx, cvB_refl _⟩, ⟨y, hy, h⟩⟩
      · cases hz
  · rintro ⟨hm, ⟨x, hx, h1⟩, ⟨y, hy, h2⟩⟩
    rcases hm with hm | hm
    · refine ⟨z, hm, y, hy, ?_⟩
      by_cases h3 : cvB z y = true
      · rw [if_pos h3, cvB_anti (ha z hm) (hb y hy) h3 h2]; simp
      · rw [if_neg h3, if_pos h2]; simp
    · exact ⟨x, hx, z, hm, by rw [if_pos h1]; simp⟩
section
variable (a b : List Bs) (ha : Sh a) (hb : Sh b) (hl : a.length ≤ 50 ∧ b.length ≤ 50)
include ha hb
omit hb in
include hl
end
theorem sc_ok {a : List Bs} (h : scF a = 0) : a.length ≤ 50 ∧ a.all scP = true := by
  unfold scF at h
  split at h
  · cases h
  · split at h
    · rename_i h1 h2; exact ⟨by omega, h2⟩
    · cases h
theorem signed_eq : m_gatelaw2_signed = some true := by
  have h : m_token_Encode [97, 98] = some [89, 87, 73] := by
    unfold m_token_Encode
    exact iter_some.2 ⟨2, by decide +kernel⟩
  unfold m_gatelaw2_signed
  rw [h]
  decide +kernel
theorem eqB_self (l : List Bs) (h : l.length ≤ 1000000000) : m_slices_Equal_L_string_string_ l l = some true :=
  gEql_self (fun x7 x10 : Bs => decide (x7 ≠ x10)) (fun x => by simp) l h

/-- what the stream gives -/
def ScB (l : List Bs) : Prop := (l.length ≤ 5 ∨ l = List.replicate 51 []) ∧ Sh l
theorem scope_ok {k : Int} {s : S_gatemake_Stream} (h : SB k s) (hk : k ≤ 1000000) : Ok (m_gatemake_Stream_Scope s) fun r => r.1.length ≤ 1000 ∧ SB (k + 2) r.2 := by
  unfold m_gatemake_Stream_Scope m_strings_Repeat
  refine ok_bind (flip_ok h (by omega) _ (by omega)) fun r hr => ok_if (fun _ => ?_) (fun _ => ?_)
  · rw [if_pos (by decide)]
    simp only [Option.bind_some]
    refine ok_g (by rw [Lib.repeatL_length]; decide) (ok_bind (some_ok hr (by omega) _ ⟨by simp, by simp⟩) fun r3 h3 => ok_some ⟨?_, h3.2.mono (by omega)⟩)
    have h1 := h3.1
    simp only [List.mem_cons, List.not_mem_nil, or_false] at h1
    simp only
    rcases h1 with h1 | h1 | h1 | h1 | h1 | h1 | h1 | h1 <;> rw [h1] <;> first | decide | (rw [List.length_append, Lib.repeatL_length]; decide)
  · refine ok_bind (some_ok hr (by omega) _ ⟨by simp, by simp⟩) fun r3 h3 => ok_some ⟨?_, h3.2.mono (by omega)⟩
    have h1 := h3.1
    simp only [List.mem_cons, List.not_mem_nil, or_false] at h1
    simp only
    rcases h1 with h1 | h1 | h1 | h1 | h1 | h1 | h1 | h1 | h1 | h1 <;> rw [h1] <;> decide
theorem rightSc_ok {k : Int} {s : S_gatemake_Stream} (h : SB k s) (hk : k ≤ 1000000) : Ok (m_gatemake_Stream_RightScopes s) fun r => (r.1.length ≤ 4 ∧ ∀ x, x ∈ r.1 → x.length ≤ 1000) ∧ SB (k + 5) r.2 := by
  unfold m_gatemake_Stream_RightScopes
  refine ok_bind (range_ok h (by omega) 0 4 (by omega)) fun r2 h2 => ok_g (by omega) ?_
  refine ok_rng (fun (j : Nat) (q : (List Int) × Int × (List Bs)) => SB (k + 1 + (j : Int)) ⟨q.1, q.2.1⟩ ∧ q.2.2.length ≤ j ∧ ∀ x, x ∈ q.2.2 → x.length ≤ 1000) _ 0 _ ⟨by simpa using h2.2, by simp, by simp⟩ ?_ ?_
  · rintro j ⟨c, d, l⟩ _ hj ⟨q1, q2, q3⟩
    simp only at q1 q2 q3
    have hj : j < 4 := by omega
    unfold gatemake_Stream_RightScopes_L1
    refine ok_bind (some_ok q1 (by omega) _ ⟨by simp, by simp⟩) fun r3 h3 => ok_g (by simp only; omega) (ok_some ⟨h3.2.mono (by omega), by simp; omega, fun y hy => ?_⟩)
    rcases List.mem_append.1 hy with hy | hy
    · exact q3 y hy
    · simp only [List.mem_singleton] at hy
      subst hy
      have h1 := h3.1
      simp only [List.mem_cons, List.not_mem_nil, or_false] at h1
      rcases h1 with h1 | h1 | h1 | h1 | h1 | h1 | h1 | h1 | h1 <;> rw [h1] <;> decide
  · rintro ⟨c, d, l⟩ ⟨q1, q2, q3⟩
    simp only at q1 q2 q3
    exact ok_some ⟨⟨by simp only; omega, q3⟩, q1.mono (by omega)⟩
theorem scopes_ok {k : Int} {s : S_gatemake_Stream} (h : SB k s) (hk : k ≤ 100000) : Ok (m_gatemake_Stream_Scopes s) fun r => ScB r.1 ∧ SB (k + 20) r.2 := by
  unfold m_gatemake_Stream_Scopes
  refine ok_bind (rightSc_ok h (by omega)) fun r2 h2 => ok_bind (flip_ok h2.2 (by omega) _ (by omega)) fun r4 h4 => ?_
  have hJ : ∀ (l : List Bs) (c : List Int) (d : Int), l.length ≤ 5 ∧ (∀ x, x ∈ l → x.length ≤ 1000) → SB (k + 10) ⟨c, d⟩ → Ok (gatemake_Stream_Scopes_J1 l c d) fun r => ScB r.1 ∧ SB (k + 20) r.2 := by
    intro l c d hl hs
    unfold gatemake_Stream_Scopes_J1 gatemake_Stream_Scopes_J2
    refine ok_bind (flip_ok hs (by omega) _ (by omega)) fun r6 h6 => ok_if (fun _ => ok_g (by decide) (ok_some ⟨⟨.inr rfl, by simp, fun x hx => ?_⟩, h6.mono (by omega)⟩)) (fun _ => ok_some ⟨⟨.inl hl.1, by simp only; omega, fun x hx => by have := hl.2 x hx; omega⟩, h6.mono (by omega)⟩)
    rw [List.eq_of_mem_replicate hx]; decide
  refine ok_if (fun _ => ?_) (fun _ => hJ _ _ _ ⟨by omega, h2.1.2⟩ (h4.mono (by omega)))
  refine ok_bind (scope_ok h4 (by omega)) fun r7 h7 => ok_g (by omega) (hJ _ _ _ ⟨by simp; omega, fun x hx => ?_⟩ (h7.2.mono (by omega)))
  rcases List.mem_append.1 hx with hx | hx
  · exact h2.1.2 x hx
  · simp only [List.mem_singleton] at hx
    subst hx; exact h7.1
theorem mul_ok {a b : List Bs} (ha : ScB a) (hb : ScB b) : a.length * b.length ≤ 50 ∨ or2 (scF a) (scF b) ≠ 0 := by
  rcases ha.1 with h1 | h1
  · rcases hb.1 with h2 | h2
    · left
      have := Nat.mul_le_mul h1 h2
      omega
    · right
      have : scF b = 2 := by rw [h2]; unfold scF; rw [if_pos (by simp)]
      unfold or2; rw [this]
      split
      · assumption
      · decide
  · right
    have : scF a = 2 := by rw [h1]; unfold scF; rw [if_pos (by simp)]
    unfold or2; rw [this, if_pos (by decide)]; decide
end Go.Proofs.YtpeeeanmfmhlgaaGreatDoor
