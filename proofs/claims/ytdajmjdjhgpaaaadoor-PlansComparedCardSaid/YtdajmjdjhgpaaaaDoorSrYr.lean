/- Plain: slices.SortFunc and slices.SortStableFunc at few elements: two insertion sorts that go side by side. -/
import Derived.Test.YtdajmjdjhgpaaaaDoorOkYr
namespace Go.Proofs.YtdajmjdjhgpaaaaDoor
set_option linter.unusedVariables false
set_option maxRecDepth 20000
section
variable {α β σ τ ρ ρ' : Type}
theorem forL_rel {body : Nat → α → σ → Option (σ ⊕ ρ)} {body' : Nat → α → τ → Option (τ ⊕ ρ')} {fin : σ → Option ρ} {fin' : τ → Option ρ'} (R : Nat → σ → τ → Prop) (Q : ρ → ρ' → Prop) : ∀ (l : List α) (k : Nat) (s : σ) (s' : τ), R k s s' →
    (∀ j x s s', k ≤ j → l[j - k]? = some x → R j s s' → (∃ t t', body j x s = some (.inl t) ∧ body' j x s' = some (.inl t') ∧ R (j + 1) t t') ∨ ∃ r r', body j x s = some (.inr r) ∧ body' j x s' = some (.inr r') ∧ Q r r') →
    (∀ s s', R (k + l.length) s s' → ∃ r r', fin s = some r ∧ fin' s' = some r' ∧ Q r r') → ∃ r r', forL body fin k l s = some r ∧ forL body' fin' k l s' = some r' ∧ Q r r'
  | [], k, s, s', h0, hs, hf => hf s s' h0
  | x :: l, k, s, s', h0, hs, hf => by
    show ∃ r r', (body k x s).bind _ = some r ∧ (body' k x s').bind _ = some r' ∧ Q r r'
    rcases hs k x s s' (Nat.le_refl _) (by simp) h0 with ⟨t, t', q1, q2, q3⟩ | ⟨r, r', q1, q2, q3⟩
    · rw [q1, q2]
      refine forL_rel R Q l (k + 1) t t' q3 (fun j y s s' hj hy hr => hs j y s s' (by omega) ?_ hr) (fun s s' hr => hf s s' ?_)
      · obtain ⟨m, hm⟩ : ∃ m, j - k = m + 1 := ⟨j - k - 1, by omega⟩
        rw [hm, List.getElem?_cons_succ]
        have : j - (k + 1) = m := by omega
        rw [this] at hy; exact hy
      · simp only [List.length_cons]
        have : k + (l.length + 1) = k + 1 + l.length := by omega
        rw [this]; exact hr
    · rw [q1, q2]; exact ⟨r, r', rfl, rfl, q3⟩
def gJ4 (i j : Int) (l : List α) (v : Bool) : Option ((Int × List α) ⊕ ((Int × List α) ⊕ List α)) :=
  if v then ((at? l (wr (j - 1))).bind fun (x22 : α) => (at? l j).bind fun (x24 : α) => (at? (l.set j.toNat x22) (wr (j - 1))).bind fun (x26 : α) => some (.inl (wr (j - 1), ((l.set j.toNat x22).set ((wr (j - 1)).toNat) x24)))) else (Option.map .inr (some (.inl (wr (i + 1), l))))
def gL3 (a : Int) (p : α → α → Option Int) (i j : Int) (l : List α) : Option ((Int × List α) ⊕ ((Int × List α) ⊕ List α)) :=
  if decide (a < j) then ((at? l j).bind fun (x13 : α) => (at? l (wr (j - 1))).bind fun (x15 : α) => (p x13 x15).bind fun (r17 : Int) => gJ4 i j l (decide (r17 < 0))) else (gJ4 i j l false)
noncomputable def gL1 (a b : Int) (p : α → α → Option Int) (i : Int) (l : List α) : Option ((Int × List α) ⊕ List α) :=
  if decide (i < b) then (iter (fun (s : Int × List α) => gL3 a p i s.1 s.2) (i, l)) else (some (.inr l))
noncomputable def gIns (l : List α) (a b : Int) (p : α → α → Option Int) : Option (List α) := iter (fun (s : Int × List α) => gL1 a b p s.1 s.2) (wr (a + 1), l)
section
variable {p : α → α → Option Int} {q : β → β → Option Int} {f : α → β}
def goodP (p : α → α → Option Int) (q : β → β → Option Int) (f : α → β) (x y : α) : Prop := ∃ c d, p x y = some c ∧ q (f x) (f y) = some d ∧ (c < 0 ↔ d < 0)
end
noncomputable def gPdq (v1 : List α) (v2 v3 v4 : Int) (p4 : α → α → Option Int) : Option (List α) :=
  iter (fun (s : Int × Int × Int × Bool × Bool) => if decide ((wr (s.2.1 - s.1)) ≤ 12) then ((gIns v1 s.1 s.2.1 p4).bind fun (r12 : List α) => if r12.length = v1.length then (some (.inr r12)) else none) else (if decide (s.2.2.1 = 0) then none else none)) (v2, v3, v4, true, true)
noncomputable def gStL5 (n2 : Int) (bs a19 b20 : Int) : Option ((Int × Int) ⊕ (Int ⊕ List α)) :=
  if decide (b20 ≤ n2) then none else (Option.map .inr (if decide ((wr (a19 + bs)) < n2) then none else (some (.inl (wr (bs * 2))))))
noncomputable def gStL3 (n2 : Int) (r13 : List α) (bs : Int) : Option (Int ⊕ List α) :=
  if decide (bs < n2) then (iter (fun (s : Int × Int) => gStL5 n2 bs s.1 s.2) (0, wr (2 * bs))) else (some (.inr r13))
noncomputable def gStJ1 (n2 : Int) (p2 : α → α → Option Int) (a11 : Int) (d12 : List α) : Option (List α) :=
  (gIns d12 a11 n2 p2).bind fun (r13 : List α) => if r13.length = d12.length then (iter (fun (s : Int) => gStL3 n2 r13 s) 20) else none
noncomputable def gStL2 (n2 : Int) (p2 : α → α → Option Int) (a3 b4 : Int) (l5 : List α) : Option ((Int × Int × List α) ⊕ List α) :=
  if decide (b4 ≤ n2) then ((gIns l5 a3 b4 p2).bind fun (r8 : List α) => if r8.length = l5.length then (some (.inl (b4, wr (b4 + 20), r8))) else none) else (Option.map .inr (gStJ1 n2 p2 a3 l5))
noncomputable def gStab (d1 : List α) (n2 : Int) (p2 : α → α → Option Int) : Option (List α) := iter (fun (s : Int × Int × List α) => gStL2 n2 p2 s.1 s.2.1 s.2.2) (0, 20, d1)
end
end Go.Proofs.YtdajmjdjhgpaaaaDoor
