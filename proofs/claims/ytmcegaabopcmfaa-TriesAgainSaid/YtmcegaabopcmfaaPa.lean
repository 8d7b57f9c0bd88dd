/- Plain: partial results with a property; loops; the stream's draws. -/
import Derived.Test.YtmcegaabopcmfaaTm
namespace Go.Proofs.Ytmcegaabopcmfaa
set_option linter.unusedVariables false

section
variable {α β σ ρ : Type}
def Ok (o : Option α) (Q : α → Prop) : Prop := ∃ x, o = some x ∧ Q x
variable {o a b : Option α} {Q Q' : α → Prop}
theorem ok_some {x : α} (h : Q x) : Ok (some x) Q := ⟨x, rfl, h⟩
theorem ok_bind {f : α → Option β} {R : β → Prop} (h : Ok o Q) (k : ∀ x, Q x → Ok (f x) R) : Ok (o.bind f) R := by
  obtain ⟨x, rfl, hx⟩ := h
  exact k x hx
theorem ok_if {c : Prop} [Decidable c] (h1 : c → Ok a Q) (h2 : ¬ c → Ok b Q) : Ok (if c then a else b) Q := by
  by_cases h : c
  · rw [if_pos h]; exact h1 h
  · rw [if_neg h]; exact h2 h
theorem ok_g {c : Prop} [Decidable c] (hc : c) (h : Ok a Q) : Ok (if c then a else none) Q := by rw [if_pos hc]; exact h
theorem ok_mono (h : Ok o Q) (k : ∀ x, Q x → Q' x) : Ok o Q' := let ⟨x, h1, h2⟩ := h; ⟨x, h1, k x h2⟩
theorem ok_eq {x : α} (h : Ok o (· = x)) : o = some x := by obtain ⟨y, h1, h2⟩ := h; rw [h1, h2]
theorem ok_of {x : α} (h : o = some x) (hq : Q x) : Ok o Q := ⟨x, h, hq⟩
/-- a round: it goes on with I, or ends with Q -/
def rd (I : σ → Prop) (Q : ρ → Prop) : σ ⊕ ρ → Prop
  | .inl s => I s
  | .inr r => Q r
theorem ok_forL {body : Nat → α → σ → Option (σ ⊕ ρ)} {fin : σ → Option ρ} {R : ρ → Prop} (I : Nat → σ → Prop) : ∀ (l : List α) (k : Nat) (s : σ), I k s →
    (∀ j x s, k ≤ j → l[j - k]? = some x → I j s → Ok (body j x s) (rd (I (j + 1)) R)) → (∀ s, I (k + l.length) s → Ok (fin s) R) → Ok (forL body fin k l s) R
  | [], k, s, h0, hs, hf => hf s h0
  | x :: l, k, s, h0, hs, hf => by
    refine ok_bind (hs k x s (Nat.le_refl _) (by simp) h0) fun q hq => ?_
    cases q with
    | inl s' =>
      refine ok_forL I l (k + 1) s' hq (fun j y s hj hy hi => hs j y s (by omega) ?_ hi) (fun s hi => hf s ?_)
      · obtain ⟨m, hm⟩ : ∃ m, j - k = m + 1 := ⟨j - k - 1, by omega⟩
        rw [hm, List.getElem?_cons_succ]
        have : j - (k + 1) = m := by omega
        rw [this] at hy; exact hy
      · simp only [List.length_cons]
        have : k + (l.length + 1) = k + 1 + l.length := by omega
        rw [this]; exact hi
    | inr r => exact ⟨r, rfl, hq⟩
theorem ok_rng {body : Nat → σ → Option (σ ⊕ ρ)} {fin : σ → Option ρ} {R : ρ → Prop} (I : Nat → σ → Prop) : ∀ (n k : Nat) (s : σ), I k s →
    (∀ j s, k ≤ j → j < k + n → I j s → Ok (body j s) (rd (I (j + 1)) R)) → (∀ s, I (k + n) s → Ok (fin s) R) → Ok (rng body fin n k s) R
  | 0, k, s, h0, hs, hf => hf s h0
  | n + 1, k, s, h0, hs, hf => by
    refine ok_bind (hs k s (Nat.le_refl _) (by omega) h0) fun q hq => ?_
    cases q with
    | inl s' => exact ok_rng I n (k + 1) s' hq (fun j s hj hy hi => hs j s (by omega) (by omega) hi) (fun s hi => hf s (by rw [show k + (n + 1) = k + 1 + n by omega]; exact hi))
    | inr r => exact ⟨r, rfl, hq⟩
theorem ok_iter {body : σ → Option (σ ⊕ ρ)} {R : ρ → Prop} (I : σ → Prop) (μ : σ → Nat) (step : ∀ s, I s → Ok (body s) (rd (fun s' => I s' ∧ μ s' < μ s) R)) (s : σ) (h : I s) : Ok (iter body s) R := by
  have key : ∀ n s, μ s < n → I s → Ok (iter body s) R := by
    intro n
    induction n with
    | zero => intro s h; omega
    | succ n ih =>
      intro s hn hi
      rw [iter_eq]
      refine ok_bind (step s hi) fun q hq => ?_
      cases q with
      | inl s' => exact ih s' (by have := hq.2; omega) hq.1
      | inr r => exact ⟨r, rfl, hq⟩
  exact key _ s (Nat.lt_succ_self _) h
/-- equal rounds, equal loops -/
theorem forL_congr {body body' : Nat → α → σ → Option (σ ⊕ ρ)} {fin fin' : σ → Option ρ} (hf : ∀ s, fin s = fin' s) : ∀ (l : List α) (k : Nat) (s : σ), (∀ j x s, k ≤ j → l[j - k]? = some x → body j x s = body' j x s) → forL body fin k l s = forL body' fin' k l s
  | [], k, s, h => hf s
  | x :: l, k, s, h => by
    have h1 := h k x s (Nat.le_refl _) (by simp)
    show (body k x s).bind _ = (body' k x s).bind _
    rw [h1]
    congr 1
    funext q
    cases q with
    | inl s' =>
      refine forL_congr hf l (k + 1) s' fun j y s hj hy => h j y s (by omega) ?_
      obtain ⟨m, hm⟩ : ∃ m, j - k = m + 1 := ⟨j - k - 1, by omega⟩
      rw [hm, List.getElem?_cons_succ]
      have : j - (k + 1) = m := by omega
      rw [this] at hy; exact hy
    | inr r => rfl
end

/-- a stream that has drawn at most n times -/
def SB (n : Int) (s : S_gatemake_Stream) : Prop := 0 ≤ s.at_ ∧ s.at_ ≤ n
theorem SB.mono {n m : Int} {s : S_gatemake_Stream} (h : SB n s) (hm : n ≤ m) : SB m s := ⟨h.1, by have := h.2; omega⟩

theorem below_ok (x n : Int) (hn : n ≤ 1000000000000000) : Ok (m_gatemake_Below x n) fun r => 0 ≤ r ∧ (1 ≤ n → r < n) ∧ (n < 1 → r = 0) := by
  unfold m_gatemake_Below gatemake_Below_J1
  refine ok_if (fun h => ok_some ?_) (fun h => ok_g ?_ (ok_if (fun h2 => ok_some ?_) (fun h2 => ok_some ?_)))
  · simp at h; omega
  · simp at h; omega
  · simp at h h2
    have h3 := Int.tmod_lt_of_pos x (show 0 < n by omega)
    have h4 : -n < x.tmod n := by
      have := Int.lt_tmod_of_pos x (show 0 < n by omega)
      omega
    rw [wr_id (by omega)]
    omega
  · simp at h h2
    have h3 := Int.tmod_lt_of_pos x (show 0 < n by omega)
    omega
theorem next_ok {k : Int} {s : S_gatemake_Stream} (h : SB k s) (hk : k ≤ 1000000000) (n : Int) (hn : n ≤ 1000000000000000) :
    Ok (m_gatemake_Stream_Next s n) fun r => (0 ≤ r.1 ∧ (1 ≤ n → r.1 < n) ∧ (n < 1 → r.1 = 0)) ∧ SB (k + 1) r.2 := by
  obtain ⟨h1, h2⟩ := h
  have e1 : wr (s.at_ + 1) = s.at_ + 1 := wr_id (by omega)
  have e2 : wr (s.at_ + 1 - 1) = s.at_ := by rw [wr_id (by omega)]; omega
  unfold m_gatemake_Stream_Next
  simp only [e1, e2]
  refine ok_if (fun h => ?_) (fun h => ?_)
  · exact ok_bind (below_ok _ n hn) fun r hr => ok_some ⟨hr, by simp only [SB]; omega⟩
  · simp at h
    have hL : 0 < s.L.length := by cases hq : s.L with | nil => exact absurd hq h | cons _ _ => simp
    refine ok_g (by omega) (ok_g ⟨by omega, by omega⟩ ?_)
    have hi : 0 ≤ s.at_.tmod (s.L.length : Int) := Int.tmod_nonneg _ h1
    have hi2 := Int.tmod_lt_of_pos s.at_ (show (0 : Int) < s.L.length by omega)
    have hat : Ok (at? s.L (s.at_.tmod (s.L.length : Int))) fun _ => True := by
      unfold at?
      rw [if_pos hi, List.getElem?_eq_getElem (by omega)]
      exact ⟨_, rfl, trivial⟩
    refine ok_bind hat fun x _ => ok_bind (below_ok _ _ (by omega)) fun r _ => ok_bind (below_ok _ n hn) fun r hr => ok_some ⟨hr, by simp only [SB]; omega⟩
section
variable {k : Int} {s : S_gatemake_Stream} (h : SB k s) (hk : k ≤ 100000000)
include h hk
theorem flip_ok (n : Int) (hn : n ≤ 1000000000000000) : Ok (m_gatemake_Stream_Flip s n) fun r => SB (k + 1) r.2 := by
  unfold m_gatemake_Stream_Flip
  exact ok_bind (next_ok h (by omega) n hn) fun r hr => ok_some hr.2
theorem pick_ok (l : List Int) (hl : l ≠ [] ∧ l.length ≤ 1000) : Ok (m_gatemake_Stream_Pick s l) fun r => r.1 ∈ l ∧ SB (k + 1) r.2 := by
  unfold m_gatemake_Stream_Pick
  have hp : 0 < l.length := by cases hq : l with | nil => exact absurd hq hl.1 | cons _ _ => simp
  refine ok_bind (next_ok h (by omega) _ (by omega)) fun r hr => ?_
  have h1 := hr.1.2.1 (by omega)
  have hat : Ok (at? l r.1) fun x => x ∈ l := by
    unfold at?
    rw [if_pos hr.1.1, List.getElem?_eq_getElem (by omega)]
    exact ⟨_, rfl, List.getElem_mem _⟩
  exact ok_bind hat fun x hx => ok_some ⟨hx, hr.2⟩
theorem some_ok (l : List Bs) (hl : l ≠ [] ∧ l.length ≤ 1000) : Ok (m_gatemake_Stream_Some s l) fun r => r.1 ∈ l ∧ SB (k + 1) r.2 := by
  unfold m_gatemake_Stream_Some
  have hp : 0 < l.length := by cases hq : l with | nil => exact absurd hq hl.1 | cons _ _ => simp
  refine ok_bind (next_ok h (by omega) _ (by omega)) fun r hr => ?_
  have h1 := hr.1.2.1 (by omega)
  have hat : Ok (at? l r.1) fun x => x ∈ l := by
    unfold at?
    rw [if_pos hr.1.1, List.getElem?_eq_getElem (by omega)]
    exact ⟨_, rfl, List.getElem_mem _⟩
  exact ok_bind hat fun x hx => ok_some ⟨hx, hr.2⟩
theorem range_ok (lo hi : Int) (hr : -1000000000000 ≤ lo ∧ lo ≤ hi ∧ hi ≤ 1000000000000) : Ok (m_gatemake_Stream_Range s lo hi) fun r => (lo ≤ r.1 ∧ r.1 ≤ hi) ∧ SB (k + 1) r.2 := by
  unfold m_gatemake_Stream_Range
  refine ok_if (fun h => absurd h (by simp; omega)) (fun _ => ?_)
  have e1 : wr (wr (hi - lo) + 1) = hi - lo + 1 := by rw [wr_id (n := hi - lo) (by omega), wr_id (by omega)]
  rw [e1]
  refine ok_bind (next_ok h (by omega) _ (by omega)) fun r hr2 => ok_some ?_
  have h1 := hr2.1.2.1 (by omega)
  have h2 := hr2.1.1
  simp only
  rw [wr_id (by omega)]
  exact ⟨by omega, hr2.2⟩
end
theorem odd_ok {k : Int} {s : S_gatemake_Stream} (h : SB k s) (hk : k ≤ 10000000) (lo hi : Int) (hr : -1000000000000 ≤ lo ∧ lo ≤ hi ∧ hi ≤ 1000000000000) : Ok (m_gatemake_Stream_Odd s lo hi) fun r => (-2000000000000 ≤ r.1 ∧ r.1 ≤ 2000000000000) ∧ SB (k + 2) r.2 := by
  unfold m_gatemake_Stream_Odd
  refine ok_bind (flip_ok h (by omega) 12 (by omega)) fun r hr2 => ok_if (fun _ => ?_) (fun _ => ?_)
  · refine ok_bind (pick_ok hr2 (by omega) _ ⟨by simp, by simp⟩) fun r3 hr3 => ok_some ⟨?_, hr3.2.mono (by omega)⟩
    have hm := hr3.1
    rw [wr_id (n := lo - 1) (by omega), wr_id (n := hi + 1) (by omega)] at hm
    simp only [List.mem_cons, List.not_mem_nil, or_false] at hm
    simp only
    omega
  · exact ok_bind (range_ok hr2 (by omega) lo hi hr) fun r3 hr3 => ok_some ⟨by simp only; omega, hr3.2.mono (by omega)⟩
end Go.Proofs.Ytmcegaabopcmfaa
