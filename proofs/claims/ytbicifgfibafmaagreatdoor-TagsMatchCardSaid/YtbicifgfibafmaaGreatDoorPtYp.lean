/- Plain: parts of values between commas; two loops over two lists. -/
import Derived.Test.YtbicifgfibafmaaGreatDoorCkYp
namespace Go.Proofs.YtbicifgfibafmaaGreatDoor
set_option linter.unusedVariables false
set_option maxRecDepth 20000
theorem spl_cons (c x : UInt8) (l : Bs) : spl c (x :: l) = if x = c then [] :: spl c l else match spl c l with
    | p :: ps => (x :: p) :: ps
    | [] => [[x]] := rfl
theorem spl_app2 (c : UInt8) (b : Bs) : ∀ a : Bs, spl c (a ++ c :: b) = spl c a ++ spl c b
  | [] => by
    rw [List.nil_append, spl_cons, if_pos rfl]; rfl
  | x :: a => by
    rw [List.cons_append, spl_cons, spl_cons, spl_app2 c b a]
    by_cases h : x = c
    · rw [if_pos h, if_pos h]; rfl
    · rw [if_neg h, if_neg h]
      cases hq : spl c a with
      | nil => exact absurd hq (spl_ne c a)
      | cons p ps => rfl
theorem spl_join (c : UInt8) : ∀ l : List Bs, l ≠ [] → spl c (Lib.join l [c]) = (l.map (spl c)).flatten
  | [], h => absurd rfl h
  | [x], _ => by rw [Lib.join_one]; simp
  | x :: y :: l, _ => by
    have h : Lib.join (x :: y :: l) [c] = x ++ c :: Lib.join (y :: l) [c] := by
      rw [Lib.join_cons, Lib.join_cons]
      simp [Lib.joinTail]
    rw [h, spl_app2, spl_join c (y :: l) (by simp)]
    simp
def tfB (l : List Bs) : List Bs := (l.map fun p => trL 32 (trR 32 p)).filter fun p => decide (p ≠ [])
theorem tfB_app (a b : List Bs) : tfB (a ++ b) = tfB a ++ tfB b := by simp [tfB]
theorem tfB_len (l : List Bs) : (tfB l).length ≤ l.length := by
  unfold tfB
  have := (List.filter_sublist (p := fun p : Bs => decide (p ≠ [])) (l := l.map fun p => trL 32 (trR 32 p))).length_le
  simpa using this
theorem tfB_mem {l : List Bs} {p : Bs} (h : p ∈ tfB l) : ∃ q, q ∈ l ∧ p.length ≤ q.length ∧ ∀ c, c ∈ p → c ∈ q := by
  unfold tfB at h
  obtain ⟨q, h1, h2⟩ := List.mem_map.1 (List.mem_filter.1 h).1
  have := trim_mem 32 q
  rw [h2] at this
  exact ⟨q, h1, this⟩
/-- the parts of values -/
def ptsB (l : List Bs) : List Bs := tfB (l.map (spl 44)).flatten
theorem ptsB_mem {l : List Bs} {p : Bs} (h : p ∈ ptsB l) : ∃ v, v ∈ l ∧ p.length ≤ v.length ∧ ∀ c, c ∈ p → c ∈ v := by
  obtain ⟨q, h1, h2, h3⟩ := tfB_mem h
  obtain ⟨x, h4, h5⟩ := List.mem_flatten.1 h1
  obtain ⟨v, h6, rfl⟩ := List.mem_map.1 h4
  have := spl_piece 44 v q h5
  exact ⟨v, h6, by omega, fun c hc => spl_mem 44 v q h5 c (h3 c hc)⟩
/-- two loops over two lists of one length -/
theorem forL_two {α β σ ρ : Type} {body : Nat → α → σ → Option (σ ⊕ ρ)} {body' : Nat → β → σ → Option (σ ⊕ ρ)} {fin fin' : σ → Option ρ} {R : ρ → Prop} (I : Nat → σ → Prop) : ∀ (l : List α) (l' : List β) (k : Nat) (s : σ), l.length = l'.length → I k s →
    (∀ j x y s, k ≤ j → l[j - k]? = some x → l'[j - k]? = some y → I j s → ∃ q, body j x s = some q ∧ body' j y s = some q ∧ rd (I (j + 1)) R q) → (∀ s, I (k + l.length) s → ∃ r, fin s = some r ∧ fin' s = some r ∧ R r) → ∃ r, forL body fin k l s = some r ∧ forL body' fin' k l' s = some r ∧ R r
  | [], [], k, s, _, h0, hs, hf => hf s h0
  | [], y :: l', k, s, hl, _, _, _ => by cases hl
  | x :: l, [], k, s, hl, _, _, _ => by cases hl
  | x :: l, y :: l', k, s, hl, h0, hs, hf => by
    obtain ⟨q, q1, q2, q3⟩ := hs k x y s (Nat.le_refl _) (by simp) (by simp) h0
    show ∃ r, (body k x s).bind _ = some r ∧ (body' k y s).bind _ = some r ∧ R r
    rw [q1, q2]
    cases q with
    | inl s' =>
      refine forL_two I l l' (k + 1) s' (by simpa using hl) q3 (fun j a b s hj ha hb hi => hs j a b s (by omega) ?_ ?_ hi) (fun s hi => hf s ?_)
      · obtain ⟨m, hm⟩ : ∃ m, j - k = m + 1 := ⟨j - k - 1, by omega⟩
        rw [hm, List.getElem?_cons_succ]
        have : j - (k + 1) = m := by omega
        rw [this] at ha; exact ha
      · obtain ⟨m, hm⟩ : ∃ m, j - k = m + 1 := ⟨j - k - 1, by omega⟩
        rw [hm, List.getElem?_cons_succ]
        have : j - (k + 1) = m := by omega
        rw [this] at hb; exact hb
      · simp only [List.length_cons]
        have : k + (l.length + 1) = k + 1 + l.length := by omega
        rw [this]; exact hi
    | inr r => exact ⟨r, rfl, rfl, q3⟩
end Go.Proofs.YtbicifgfibafmaaGreatDoor
