/- Plain: cookies: reading, writing, the program and the reference agree. -/
import Derived.Test.YtgjfcdcpiamikaaGreatDoorMiYz
import Derived.Test.YtgjfcdcpiamikaaGreatDoorHsYz
namespace Go.Proofs.YtgjfcdcpiamikaaGreatDoor
set_option linter.unusedVariables false
set_option maxRecDepth 20000
abbrev ckL : Bs := [99, 111, 111, 107, 105, 101]
/-- two loops, round by round -/
theorem forL_both {α σ ρ : Type} {body body' : Nat → α → σ → Option (σ ⊕ ρ)} {fin fin' : σ → Option ρ} {R : ρ → Prop} (I : Nat → σ → Prop) : ∀ (l : List α) (k : Nat) (s : σ), I k s →
    (∀ j x s, k ≤ j → l[j - k]? = some x → I j s → ∃ q, body j x s = some q ∧ body' j x s = some q ∧ rd (I (j + 1)) R q) → (∀ s, I (k + l.length) s → ∃ r, fin s = some r ∧ fin' s = some r ∧ R r) → ∃ r, forL body fin k l s = some r ∧ forL body' fin' k l s = some r ∧ R r
  | [], k, s, h0, hs, hf => hf s h0
  | x :: l, k, s, h0, hs, hf => by
    obtain ⟨q, q1, q2, q3⟩ := hs k x s (Nat.le_refl _) (by simp) h0
    show ∃ r, (body k x s).bind _ = some r ∧ (body' k x s).bind _ = some r ∧ R r
    rw [q1, q2]
    cases q with
    | inl s' =>
      refine forL_both I l (k + 1) s' q3 (fun j y s hj hy hi => hs j y s (by omega) ?_ hi) (fun s hi => hf s ?_)
      · obtain ⟨m, hm⟩ : ∃ m, j - k = m + 1 := ⟨j - k - 1, by omega⟩
        rw [hm, List.getElem?_cons_succ]
        have : j - (k + 1) = m := by omega
        rw [this] at hy; exact hy
      · simp only [List.length_cons]
        have : k + (l.length + 1) = k + 1 + l.length := by omega
        rw [this]; exact hi
    | inr r => exact ⟨r, rfl, rfl, q3⟩
/-- a loop that stops at the first that is bad -/
theorem forL_stop {α σ ρ : Type} {body : Nat → α → σ → Option (σ ⊕ ρ)} {fin : σ → Option ρ} {r0 : ρ} (I : σ → Prop) (bad : α → Bool) : ∀ (l : List α) (k : Nat) (s : σ), I s →
    (∀ j x s, x ∈ l → I s → if bad x = true then body j x s = some (.inr r0) else ∃ s', body j x s = some (.inl s') ∧ I s') → l.any bad = true → forL body fin k l s = some r0
  | [], k, s, h0, hs, hb => by cases hb
  | x :: l, k, s, h0, hs, hb => by
    have h1 := hs k x s (by simp) h0
    show (body k x s).bind _ = _
    cases hx : bad x
    · rw [hx] at h1
      simp only [Bool.false_eq_true, if_false] at h1
      obtain ⟨s', h2, h3⟩ := h1
      rw [h2]
      rw [List.any_cons, hx, Bool.false_or] at hb
      exact forL_stop I bad l (k + 1) s' h3 (fun j y s hy => hs j y s (List.mem_cons_of_mem _ hy)) hb
    · rw [hx] at h1
      simp only [if_true] at h1
      rw [h1]; rfl
/-- a loop that goes to its end -/
theorem forL_go {α σ ρ : Type} {body : Nat → α → σ → Option (σ ⊕ ρ)} {fin : σ → Option ρ} {r0 : ρ} (I : σ → Prop) (hf : ∀ s, I s → fin s = some r0) : ∀ (l : List α) (k : Nat) (s : σ), I s →
    (∀ j x s, x ∈ l → I s → ∃ s', body j x s = some (.inl s') ∧ I s') → forL body fin k l s = some r0
  | [], k, s, h0, hs => hf s h0
  | x :: l, k, s, h0, hs => by
    obtain ⟨s', h2, h3⟩ := hs k x s (by simp) h0
    show (body k x s).bind _ = _
    rw [h2]
    exact forL_go I hf l (k + 1) s' h3 fun j y s hy => hs j y s (List.mem_cons_of_mem _ hy)
/-- the values of a name -/
def valsB (n : Bs) (l : List S_api_Header) : List Bs := (l.filter (nmB n)).map fun x => x.Value
theorem vals_msg (n : Bs) (hn : ascB n = true) : ∀ (l : List S_api_Header) (k : Nat) (q : List Bs), (∀ x, x ∈ l → nmOK x) → q.length + l.length ≤ 1000 →
    forL (fun (k : Nat) (x : S_api_Header) (s : (List Bs)) => message_Values_L1 n k x s) (fun (s : (List Bs)) => message_Values_E1 s) k l q = some (q ++ valsB n l)
  | [], k, q, _, _ => by show some q = _; simp [valsB]
  | x :: l, k, q, h, hl => by
    simp only [List.length_cons] at hl
    have hst : message_Values_L1 n k x q = some (.inl (if nmB n x then q ++ [x.Value] else q)) := by
      unfold message_Values_L1 message_Values_J2
      rw [named_eq x n (h x (by simp)) hn]
      simp only [Option.bind_some]
      cases nmB n x
      · rfl
      · simp only [if_true]; rw [if_pos (by omega)]
    show (message_Values_L1 n k x q).bind _ = _
    rw [hst]
    have ih := vals_msg n hn l (k + 1) (if nmB n x then q ++ [x.Value] else q) (fun y hy => h y (List.mem_cons_of_mem _ hy)) (by split <;> first | omega | (simp only [List.length_append, List.length_cons, List.length_nil]; omega))
    refine Eq.trans ih ?_
    unfold valsB
    rw [List.filter_cons]
    cases nmB n x <;> simp
theorem vals_ref (n : Bs) (hn : ascB n = true ∧ n.length ≤ 100000) : ∀ (l : List S_api_Header) (k : Nat) (q : List Bs), (∀ x, x ∈ l → nmOK x) → q.length + l.length ≤ 1000 →
    forL (fun (k : Nat) (x : S_api_Header) (s : (List Bs)) => gateref2_Values_L1 n k x s) (fun (s : (List Bs)) => gateref2_Values_E1 s) k l q = some (q ++ valsB n l)
  | [], k, q, _, _ => by show some q = _; simp [valsB]
  | x :: l, k, q, h, hl => by
    simp only [List.length_cons] at hl
    have hst : gateref2_Values_L1 n k x q = some (.inl (if nmB n x then q ++ [x.Value] else q)) := by
      unfold gateref2_Values_L1 gateref2_Values_J2
      rw [alike_eq x.Name n (h x (by simp)) hn]
      simp only [Option.bind_some]
      show (if nmB n x = true then _ else _) = _
      cases nmB n x
      · rfl
      · simp only [if_true]; rw [if_pos (by omega)]
    show (gateref2_Values_L1 n k x q).bind _ = _
    rw [hst]
    have ih := vals_ref n hn l (k + 1) (if nmB n x then q ++ [x.Value] else q) (fun y hy => h y (List.mem_cons_of_mem _ hy)) (by split <;> first | omega | (simp only [List.length_append, List.length_cons, List.length_nil]; omega))
    refine Eq.trans ih ?_
    unfold valsB
    rw [List.filter_cons]
    cases nmB n x <;> simp
theorem values_eq (l : List S_api_Header) (n : Bs) (hl : l.length ≤ 1000) (h : ∀ x, x ∈ l → nmOK x) (hn : ascB n = true ∧ n.length ≤ 100000) : m_message_Values l n = some (valsB n l) ∧ m_gateref2_Values l n = some (valsB n l) := by
  constructor
  · unfold m_message_Values
    rw [if_pos (by omega), vals_msg n hn.1 l 0 [] h (by simpa using hl)]; rfl
  · unfold m_gateref2_Values
    rw [if_pos (by omega), vals_ref n hn l 0 [] h (by simpa using hl)]; rfl
/-- values of cookies -/
abbrev csL : Bs := [34, 44, 59, 92, 32]
def cvA (s : Bs) : Bool := s.any csL.contains
theorem any_asc (s : Bs) (hl : s.length ≤ 1000000) (ha : ascB s = true) : m_strings_ContainsAny s [34, 44, 59, 92, 32] = some (cvA s) ∧ m_strings_ContainsAny s [34, 44, 92, 32, 59] = some (cvA s) := by
  unfold m_strings_ContainsAny cvA
  rw [if_pos ⟨⟨by omega, by simp⟩, ha, rfl⟩, if_pos ⟨⟨by omega, by simp⟩, ha, rfl⟩, any_eq, any_eq]
  refine ⟨rfl, ?_⟩
  congr 2
  funext c
  have := u8_all (fun c => ([34, 44, 92, 32, 59] : Bs).contains c == csL.contains c) (by decide +kernel) c
  simpa using this
def cvB (s : Bs) : Bool := fldB s && !cvA s
theorem fld_rg {s : Bs} (h : fldB s = true) : rgB s 32 126 = true := by
  unfold fldB at h
  simp only [Bool.and_eq_true] at h
  exact h.2.1
theorem dw_id (c : UInt8) : ∀ l : Bs, c ∉ l → l.dropWhile (· == c) = l
  | [], _ => rfl
  | x :: l, h => by
    rw [List.dropWhile_cons, if_neg]
    intro h1
    have : x = c := by simpa using h1
    exact h (by simp [this])
theorem trim_id (c : UInt8) (s : Bs) (h : c ∉ s) : trL c (trR c s) = s := by
  unfold trL trR
  rw [dw_id c s.reverse (by simpa using h), List.reverse_reverse, dw_id c s h]
theorem cvA_no {s : Bs} (h : cvA s = false) (c : UInt8) (hc : csL.contains c = true) : c ∉ s := by
  intro hm
  unfold cvA at h
  rw [List.any_eq_false] at h
  exact h c hm hc
theorem cv_vis (s : Bs) (hl : s.length ≤ 2000) (hr : rgB s 32 126 = true) : cvB s = !cvA s := by
  unfold cvB
  cases h : cvA s
  · have : fldB s = true := by
      unfold fldB
      rw [hr, trim_id 32 s (cvA_no h 32 (by decide))]
      simp; omega
    rw [this]; rfl
  · simp
theorem rg_mem {s t : Bs} {a b : Int} (h : rgB s a b = true) (hm : ∀ c, c ∈ t → c ∈ s) : rgB t a b = true := by
  unfold rgB at h ⊢
  exact List.all_eq_true.2 fun c hc => List.all_eq_true.1 h c (hm c hc)
theorem join_snoc2 (l : List Bs) (x : Bs) (h : l ≠ []) : Lib.join (l ++ [x]) scL = Lib.join l scL ++ (scL ++ x) := by
  cases l with
  | nil => exact absurd rfl h
  | cons a l =>
    rw [List.cons_append, Lib.join_cons, Lib.join_cons]
    simp [Lib.joinTail]
def jl (k n : Nat) (l : List Bs) : Prop := l ≠ [] ∧ l.length ≤ k ∧ (Lib.join l scL).length ≤ n
theorem jl_one {k n m : Nat} {l : List Bs} (h : jl k n l) (x : Bs) (hx : x.length ≤ m) : jl (k + 1) (n + m + 2) (l ++ [x]) := by
  refine ⟨by simp, by have := h.2.1; simp; omega, ?_⟩
  rw [join_snoc2 l x h.1]
  have := h.2.2
  simp; omega
theorem jl_mono {k n k' n' : Nat} {l : List Bs} (h : jl k n l) (h1 : k ≤ k') (h2 : n ≤ n') : jl k' n' l := ⟨h.1, by have := h.2.1; omega, by have := h.2.2; omega⟩
theorem itoa_nat {n : Int} (h : 0 ≤ n) : Lib.itoa n = Lib.decDigits n.toNat := by
  unfold Lib.itoa
  rw [if_neg (by omega)]
theorem itoa_le {n : Int} (h : 0 ≤ n) (h2 : n < 100000000000000000) : (Lib.itoa n).length ≤ 17 := by
  rw [itoa_nat h]
  exact dec_len 16 _ (by omega)
section
end
theorem dec_no59 (n : Nat) : (59 : UInt8) ∉ Lib.decDigits n := by
  intro h
  have := List.all_eq_true.1 (dec_all n) 59 h
  revert this; decide
theorem no59_tok {s : Bs} (h : tokB s = true) : (59 : UInt8) ∉ s := by
  intro hm
  unfold tokB at h
  simp only [Bool.and_eq_true] at h
  have := List.all_eq_true.1 h.1 59 hm
  revert this; decide
theorem no59_cv {s : Bs} (h : cvB s = true) : (59 : UInt8) ∉ s := by
  unfold cvB at h
  simp only [Bool.and_eq_true, Bool.not_eq_true'] at h
  exact cvA_no h.2 59 (by decide)
/-- an age that is none -/
abbrev ageL : Bs := [77, 97, 120, 45, 65, 103, 101]
def isBad (x : Bs) : Bool := decide ((Lib.cut x [61]).1 = ageL) && !okN 16 (Lib.cut x [61]).2.1
end Go.Proofs.YtgjfcdcpiamikaaGreatDoor
