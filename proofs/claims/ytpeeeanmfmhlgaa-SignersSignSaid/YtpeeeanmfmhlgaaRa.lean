/- Plain: secrets, signers: the program and the reference agree; the law SignersRotate is true for every list of numbers. -/
import Derived.Test.YtpeeeanmfmhlgaaKe
namespace Go.Proofs.Ytpeeeanmfmhlgaa
set_option linter.unusedVariables false
set_option maxRecDepth 20000

def badB (c : UInt8) : Bool := decide ((c.toNat : Int) < 33) || decide (126 < (c.toNat : Int))
def secF (s : Bs) : Int := if s = [] ∨ s.any badB = true then 3 else if 100 < s.length then 2 else 0
theorem all_bad (s : Bs) : (s.all fun c => !badB c) = !s.any badB := by
  induction s with
  | nil => rfl
  | cons c s ih => simp only [List.all_cons, List.any_cons, ih, Bool.not_or]
theorem secP_eq (s : Bs) (h : s.length ≤ 1000000000) : m_token_secretFault s = some (secF s) := by
  unfold m_token_secretFault
  rw [if_pos h, forL_all (p := fun _ c => !badB c) (r0 := 3) (e := if s = [] then 3 else if 100 < s.length then 2 else 0) ?_ s 0 fun j x _ _ => ?_]
  · rw [allI_all (fun c => !badB c), all_bad]
    unfold secF
    cases s.any badB
    · by_cases h1 : s = [] <;> simp [h1]
    · simp
  · unfold token_secretFault_E1
    by_cases h1 : s = []
    · simp [h1]
    · by_cases h2 : 100 < s.length
      · have : (100 : Int) < s.length := by omega
        simp [h1, h2, this]
      · have : ¬ (100 : Int) < s.length := by omega
        simp [h1, h2, this]
  · unfold token_secretFault_L1 token_secretFault_J2 badB
    by_cases h1 : (x.toNat : Int) < 33
    · simp [h1]
    · by_cases h2 : 126 < (x.toNat : Int) <;> simp [h1, h2]
theorem visR_eq (s : Bs) (h : s.length ≤ 1000000000) : m_gateref2_visible s 33 = some (!s.any badB) := by
  unfold m_gateref2_visible
  rw [if_pos h, forL_all (p := fun _ c => !badB c) (r0 := false) (e := true) rfl s 0 fun j x _ _ => ?_]
  · rw [allI_all (fun c => !badB c), all_bad]
    cases s.any badB <;> rfl
  · unfold gateref2_visible_L1 gateref2_visible_J2 badB
    by_cases h1 : (x.toNat : Int) < 33
    · simp [h1]
    · by_cases h2 : 126 < (x.toNat : Int) <;> simp [h1, h2]
theorem secR_eq (s : Bs) (h : s.length ≤ 1000000000) : m_gateref2_SecretFault s = some (secF s) := by
  unfold m_gateref2_SecretFault
  have hJ : ∀ b, secF s = (if b = true then 3 else if 100 < s.length then 2 else 0) → gateref2_SecretFault_J1 s b = some (secF s) := by
    intro b hb
    rw [hb]
    unfold gateref2_SecretFault_J1
    cases b
    · by_cases h2 : 100 < s.length
      · have : (100 : Int) < s.length := by omega
        simp [h2, this]
      · have : ¬ (100 : Int) < s.length := by omega
        simp [h2, this]
    · rfl
  by_cases h1 : s = []
  · rw [if_pos (by simpa using h1)]
    exact hJ true (by unfold secF; simp [h1])
  · rw [if_neg (by simpa using h1), visR_eq s h]
    refine hJ _ ?_
    unfold secF
    cases s.any badB <;> simp [h1]

structure SgB (l : List S_api_Signer) : Prop where
  len : l.length ≤ 1000
  key : ∀ x, x ∈ l → x.Id.length ≤ 1000 ∧ x.Secret.length ≤ 1000
def lateS (l : List S_api_Signer) (k : Nat) (x : S_api_Signer) : Bool := decide (0 < k) && match l[k - 1]? with | some y => decide (x.From < y.From) | none => false
def sg1 (l : List S_api_Signer) (k : Nat) (x : S_api_Signer) : Int :=
  if (!keyP x.Id) = true then 5 else if ((l.take k).any fun o => decide (o.Id = x.Id)) = true then 6 else if secF x.Secret ≠ 0 then secF x.Secret
  else if (outP x.From 0 x.To || decide (x.Until < x.To) || decide (345686400000 < x.Until)) = true then 1 else if lateS l k x = true then 7 else 0
def sgF (l : List S_api_Signer) : Int := if 50 < l.length then 2 else feI (sg1 l) 0 l
theorem conS_eq (l : List S_api_Signer) (h : l.length ≤ 1000000000) (p : S_api_Signer → Option Bool) (q : S_api_Signer → Bool) (hp : ∀ x, p x = some (q x)) : m_slices_ContainsFunc_L_api_Signer_api_Signer_ l p = some (l.any q) :=
  gCon_eq l q h fun x _ => hp x
theorem sgP_eq (l : List S_api_Signer) (hl : SgB l) (k : Nat) (x : S_api_Signer) (hx : l[k]? = some x) : m_token_signerFault l (k : Int) = some (sg1 l k x) := by
  have hk := lt_some hx
  have hb := hl.key x (List.mem_of_getElem? hx)
  have hn := hl.len
  unfold m_token_signerFault sg1
  rw [at_nat, hx]
  simp only [Option.bind_some]
  rw [isKey_eq x.Id (by omega), sub_take l k (by omega)]
  simp only [Option.bind_some]
  rw [conS_eq (l.take k) (by rw [List.length_take]; omega) (fun a0 => m_token_signerFault_1 a0 x) (fun o => decide (o.Id = x.Id)) (fun _ => rfl), secP_eq x.Secret (by omega), out_eq]
  simp only [Option.bind_some]
  have hlate : (if decide (0 < (k : Int)) = true then (at? l (wr ((k : Int) - 1))).bind fun (x21 : S_api_Signer) => token_signerFault_J1 (decide (x.From < x21.From)) else token_signerFault_J1 false) = some (if lateS l k x = true then 7 else 0) := by
    unfold lateS token_signerFault_J1
    by_cases h0 : 0 < k
    · obtain ⟨y, hy⟩ : ∃ y, l[k - 1]? = some y := ⟨_, List.getElem?_eq_getElem (by omega)⟩
      have e1 : at? l (wr ((k : Int) - 1)) = some y := by
        rw [wr_id (by omega), show (k : Int) - 1 = ((k - 1 : Nat) : Int) by omega, at_nat]; exact hy
      rw [if_pos (by simpa using h0), e1, hy]
      by_cases h1 : x.From < y.From <;> simp [h0, h1]
    · rw [if_neg (by simpa using h0)]
      simp [h0]
  rw [hlate]
  cases keyP x.Id
  · rfl
  · cases ((l.take k).any fun o => decide (o.Id = x.Id))
    · by_cases h2 : secF x.Secret = 0
      · simp only [h2, Bool.not_true, Bool.false_eq_true, if_false, ne_eq, not_true_eq_false, decide_false]
        cases (outP x.From 0 x.To || decide (x.Until < x.To) || decide (345686400000 < x.Until)) <;> rfl
      · simp [h2]
    · rfl
theorem sgR_eq (l : List S_api_Signer) (hl : SgB l) (k : Nat) (x : S_api_Signer) (hx : l[k]? = some x) : gateref2_SignersFault_L1 l k x = if sg1 l k x ≠ 0 then some (.inr (sg1 l k x)) else some (.inl ()) := by
  have hk := lt_some hx
  have hb := hl.key x (List.mem_of_getElem? hx)
  have hn := hl.len
  unfold gateref2_SignersFault_L1 sg1
  rw [key_eq x.Id (by omega), sub_take l k (by omega)]
  simp only [Option.bind_some]
  rw [conS_eq (l.take k) (by rw [List.length_take]; omega) (fun a0 => m_gateref2_SignersFault_1 a0 x) (fun o => decide (o.Id = x.Id)) (fun _ => rfl), secR_eq x.Secret (by omega), in_eq]
  simp only [Option.bind_some]
  have hlate : (if decide (0 < (k : Int)) = true then (at? l ((k : Int) - 1)).bind fun (x21 : S_api_Signer) => gateref2_SignersFault_J2 (decide (x.From < x21.From)) else gateref2_SignersFault_J2 false) = if lateS l k x = true then some (.inr 7) else some (.inl ()) := by
    unfold lateS gateref2_SignersFault_J2
    by_cases h0 : 0 < k
    · obtain ⟨y, hy⟩ : ∃ y, l[k - 1]? = some y := ⟨_, List.getElem?_eq_getElem (by omega)⟩
      have e1 : at? l ((k : Int) - 1) = some y := by
        rw [show (k : Int) - 1 = ((k - 1 : Nat) : Int) by omega, at_nat]; exact hy
      rw [if_pos (by simpa using h0), e1, hy]
      by_cases h1 : x.From < y.From <;> simp [h0, h1]
    · rw [if_neg (by simpa using h0)]
      simp [h0]
  rw [hlate, Bool.not_not]
  cases keyP x.Id
  · rfl
  · cases ((l.take k).any fun o => decide (o.Id = x.Id))
    · by_cases h2 : secF x.Secret = 0
      · simp only [h2, Bool.not_true, Bool.false_eq_true, if_false, ne_eq, not_true_eq_false, decide_false]
        cases (outP x.From 0 x.To || decide (x.Until < x.To) || decide (345686400000 < x.Until))
        · cases lateS l k x <;> rfl
        · rfl
      · simp [h2]
    · rfl
theorem chkS_eq (l : List S_api_Signer) (hl : SgB l) : m_token_CheckSigners l = some (sgF l) := by
  have hn := hl.len
  unfold m_token_CheckSigners sgF
  by_cases h1 : 50 < l.length
  · rw [if_pos (by simp; omega), if_pos h1]
  · rw [if_neg (by simp; omega), if_neg h1, if_pos (by omega)]
    refine forL_fe rfl l 0 fun j x _ hx => ?_
    have hx : l[j]? = some x := by simpa using hx
    unfold token_CheckSigners_L1
    rw [sgP_eq l hl j x hx]
    simp only [Option.bind_some]
    by_cases h2 : sg1 l j x = 0 <;> simp [h2]
theorem faultS_eq (l : List S_api_Signer) (hl : SgB l) : m_gateref2_SignersFault l = some (sgF l) := by
  have hn := hl.len
  unfold m_gateref2_SignersFault sgF
  by_cases h1 : 50 < l.length
  · rw [if_pos (by simp; omega), if_pos h1]
  · rw [if_neg (by simp; omega), if_neg h1, if_pos (by omega)]
    exact forL_fe rfl l 0 fun j x _ hx => sgR_eq l hl j x (by simpa using hx)

/-- rotation -/
def lastLate (l : List S_api_Signer) (a : Int) : Bool := match l[l.length - 1]? with | some y => decide (a < y.From) | none => false
def rtF (l : List S_api_Signer) (id secret : Bs) (a long life : Int) : Int :=
  if (!keyP id) = true then 5 else if (l.any fun o => decide (o.Id = id)) = true then 6 else if secF secret ≠ 0 then secF secret
  else if (!momP a || outP long 1 345686400000 || outP life 0 345686400000) = true then 1 else if lastLate l a = true then 7 else if 50 ≤ l.length then 2 else 0
def cutS (a : Int) (x : S_api_Signer) : S_api_Signer := ⟨x.Id, x.Secret, x.From, min x.To a, x.Until⟩
def newS (id secret : Bs) (a long life : Int) : S_api_Signer := ⟨id, secret, a, min (wr (a + long)) 345686400000, min (wr (min (wr (a + long)) 345686400000 + life)) 345686400000⟩
theorem last_at (l : List S_api_Signer) (hl : SgB l) (h : 0 < l.length) : ∃ y, l[l.length - 1]? = some y ∧ at? l (wr ((l.length : Int) - 1)) = some y := by
  have hn := hl.len
  obtain ⟨y, hy⟩ : ∃ y, l[l.length - 1]? = some y := ⟨_, List.getElem?_eq_getElem (by omega)⟩
  refine ⟨y, hy, ?_⟩
  rw [wr_id (by omega), show (l.length : Int) - 1 = ((l.length - 1 : Nat) : Int) by omega, at_nat]; exact hy
section
variable (l : List S_api_Signer) (hl : SgB l) (id secret : Bs) (a long life : Int) (hid : id.length ≤ 1000) (hse : secret.length ≤ 1000)
include hl hid hse
end
theorem signed_eq : m_gatelaw2_signed = some true := by
  have h : m_token_Encode [97, 98] = some [89, 87, 73] := by
    unfold m_token_Encode
    exact iter_some.2 ⟨2, by decide +kernel⟩
  unfold m_gatelaw2_signed
  rw [h]
  decide +kernel
theorem secret_ok {k : Int} {s : S_gatemake_Stream} (h : SB k s) (hk : k ≤ 1000000) : Ok (m_gatemake_Stream_Secret s) fun r => r.1.length ≤ 1000 ∧ SB (k + 1) r.2 := by
  unfold m_gatemake_Stream_Secret m_strings_Repeat
  rw [if_pos (by decide)]
  simp only [Option.bind_some]
  refine ok_bind (some_ok h (by omega) _ ⟨by simp, by simp⟩) fun r hr => ok_some ⟨?_, hr.2⟩
  have h1 := hr.1
  simp only [List.mem_cons, List.not_mem_nil, or_false] at h1
  simp only
  rcases h1 with h1 | h1 | h1 | h1 | h1 | h1 | h1 | h1 | h1 <;> rw [h1] <;> first | decide | (rw [Lib.repeatL_length]; decide)
theorem moment_ok {k : Int} {s : S_gatemake_Stream} (h : SB k s) (hk : k ≤ 1000000) : Ok (m_gatemake_Stream_Moment s) fun r => SB (k + 1) r.2 := by
  unfold m_gatemake_Stream_Moment
  exact ok_bind (pick_ok h (by omega) _ ⟨by simp, by simp⟩) fun r hr => ok_some hr.2
theorem rightSg_ok {k : Int} {s : S_gatemake_Stream} (h : SB k s) (hk : k ≤ 1000000) : Ok (m_gatemake_Stream_RightSigners s) fun r => SgB r.1 ∧ SB (k + 20) r.2 := by
  unfold m_gatemake_Stream_RightSigners
  refine ok_bind (range_ok h (by omega) 0 3 (by omega)) fun r2 h2 => ?_
  have hsub : Ok (sub? ([[115, 49], [115, 50], [115, 51]] : List Bs) 0 r2.1) fun l => l.length ≤ 3 ∧ ∀ x, x ∈ l → x.length ≤ 2 := by
    unfold sub?
    rw [if_pos (by simp; omega)]
    refine ok_some ⟨by simp; omega, fun x hx => ?_⟩
    have := List.mem_of_mem_take hx
    have := List.mem_of_mem_drop this
    simp at this
    rcases this with rfl | rfl | rfl <;> decide
  refine ok_bind hsub fun l4 h4 => ok_g (by omega) ?_
  refine ok_forL (fun (j : Nat) (q : Int × (List Int) × Int × (List S_api_Signer)) => SB (k + 1 + 4 * (j : Int)) ⟨q.2.1, q.2.2.1⟩ ∧ q.2.2.2.length ≤ j ∧ ∀ x, x ∈ q.2.2.2 → x.Id.length ≤ 1000 ∧ x.Secret.length ≤ 1000) l4 0 _ ⟨by simpa using h2.2, by simp, by simp⟩ ?_ ?_
  · rintro j x ⟨v6, c7, c8, l9⟩ _ hx ⟨q1, q2, q3⟩
    simp only at q1 q2 q3
    have hx : l4[j]? = some x := by simpa using hx
    have hj := lt_some hx
    have hxl := h4.2 x (List.mem_of_getElem? hx)
    unfold gatemake_Stream_RightSigners_L1
    refine ok_bind (pick_ok q1 (by omega) _ ⟨by simp, by simp⟩) fun r16 h16 => ok_bind (some_ok h16.2 (by omega) _ ⟨by simp, by simp⟩) fun r18 h18 => ok_bind (pick_ok h18.2 (by omega) _ ⟨by simp, by simp⟩) fun r20 h20 => ok_bind (pick_ok h20.2 (by omega) _ ⟨by simp, by simp⟩) fun r22 h22 => ok_g (by simp only; omega) (ok_some ⟨h22.2.mono (by omega), by simp; omega, fun y hy => ?_⟩)
    rcases List.mem_append.1 hy with hy | hy
    · exact q3 y hy
    · simp only [List.mem_singleton] at hy
      subst hy
      refine ⟨by simp only; omega, ?_⟩
      show r18.1.length ≤ 1000
      have := h18.1
      simp only [List.mem_cons, List.not_mem_nil, or_false] at this
      rcases this with h | h | h <;> rw [h] <;> decide
  · rintro ⟨v6, c7, c8, l9⟩ ⟨q1, q2, q3⟩
    simp only at q1 q2 q3
    exact ok_some ⟨⟨by simp only; omega, q3⟩, q1.mono (by omega)⟩
theorem signers_ok {k : Int} {s : S_gatemake_Stream} (h : SB k s) (hk : k ≤ 100000) : Ok (m_gatemake_Stream_Signers s) fun r => SgB r.1 ∧ SB (k + 40) r.2 := by
  unfold m_gatemake_Stream_Signers
  refine ok_bind (rightSg_ok h (by omega)) fun r2 h2 => ?_
  obtain ⟨hb, hs2⟩ := h2
  have hn := hb.len
  have hset : ∀ (i : Nat) (y : S_api_Signer), y.Id.length ≤ 1000 ∧ y.Secret.length ≤ 1000 → ∀ l, SgB l → SgB (l.set i y) := fun i y hy l hl => ⟨by simpa using hl.len, fun x hx => by
    rcases List.mem_or_eq_of_mem_set hx with hx | rfl
    · exact hl.key x hx
    · exact hy⟩
  have hJ2 : ∀ b c a, SB (k + 21) ⟨c, a⟩ → (b = true → 0 < r2.1.length) → Ok (gatemake_Stream_Signers_J2 r2 b c a) fun r => SgB r.1 ∧ SB (k + 40) r.2 := by
    intro b c a hs hb0
    unfold gatemake_Stream_Signers_J2 gatemake_Stream_Signers_J1
    refine ok_if (fun hb1 => ?_) (fun _ => ok_some ⟨hb, hs.mono (by omega)⟩)
    have hpos := hb0 hb1
    refine ok_bind (next_ok hs (by omega) _ (by omega)) fun r13 h13 => ?_
    have h14 := h13.1.2.1 (by omega)
    have hat : Ok (at? r2.1 r13.1) fun x => x ∈ r2.1 := by
      unfold at?
      rw [if_pos h13.1.1, List.getElem?_eq_getElem (by omega)]
      exact ⟨_, rfl, List.getElem_mem _⟩
    refine ok_bind hat fun x15 hx15 => ok_bind (next_ok h13.2 (by omega) _ (by omega)) fun r17 h17 => ?_
    have hx := hb.key x15 hx15
    refine ok_if (fun _ => ?_) (fun _ => ok_if (fun _ => ?_) (fun _ => ?_))
    · refine ok_bind (some_ok h17.2 (by omega) _ ⟨by simp, by simp⟩) fun r20 h20 => ok_some ⟨hset _ ⟨r20.1, x15.Secret, x15.From, x15.To, x15.Until⟩ ⟨?_, hx.2⟩ _ hb, h20.2.mono (by omega)⟩
      show r20.1.length ≤ 1000
      have := h20.1
      simp only [List.mem_cons, List.not_mem_nil, or_false] at this
      rcases this with h | h | h <;> rw [h] <;> decide
    · exact ok_bind (secret_ok h17.2 (by omega)) fun r23 h23 => ok_some ⟨hset _ ⟨x15.Id, r23.1, x15.From, x15.To, x15.Until⟩ ⟨hx.1, h23.1⟩ _ hb, h23.2.mono (by omega)⟩
    · exact ok_bind (odd_ok h17.2 (by omega) _ _ (by omega)) fun r25 h25 => ok_bind (odd_ok h25.2 (by omega) _ _ (by omega)) fun r27 h27 => ok_some ⟨hset _ ⟨x15.Id, x15.Secret, r25.1, r27.1, x15.Until⟩ hx _ (hset _ ⟨x15.Id, x15.Secret, r25.1, x15.To, x15.Until⟩ hx _ hb), h27.2.mono (by omega)⟩
  refine ok_if (fun h => ?_) (fun _ => hJ2 _ _ _ (hs2.mono (by omega)) fun h => by cases h)
  exact ok_bind (flip_ok hs2 (by omega) _ (by omega)) fun r6 h6 => hJ2 _ _ _ (h6.mono (by omega)) fun _ => by simpa using h
end Go.Proofs.Ytpeeeanmfmhlgaa
