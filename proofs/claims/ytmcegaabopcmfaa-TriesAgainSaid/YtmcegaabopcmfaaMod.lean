/- Plain words for the models of functions: partial results, loops over lists, over numbers, and without a bound. No program. -/
import Derived.IntWalk
namespace Go.Proofs.Ytmcegaabopcmfaa
set_option linter.unusedVariables false

abbrev Bs := List UInt8
abbrev wr (n : Int) : Int := IntKind.i64.wrap n
theorem wr_id {n : Int} (h : -9223372036854775808 ≤ n ∧ n ≤ 9223372036854775807) : wr n = n := IntWalk.i64_in n h
theorem wr_nat {k : Nat} (h : k ≤ 1000000000) : wr ((k : Int) + 1) = ((k + 1 : Nat) : Int) := by
  rw [wr_id (by omega)]; omega

section
variable {α β σ ρ : Type}
/-- the element at a number -/
def at? (l : List α) (m : Int) : Option α := if 0 ≤ m then l[m.toNat]? else none
theorem at_nat (l : List α) (k : Nat) : at? l (k : Int) = l[k]? := by simp [at?]
theorem at_some {l : List α} {m : Int} {x : α} (h : at? l m = some x) : (0 ≤ m ∧ m < (l.length : Int)) ∧ l[m.toNat]? = some x := by
  unfold at? at h
  split at h
  · obtain ⟨h1, _⟩ := List.getElem?_eq_some_iff.1 h
    exact ⟨⟨by assumption, by omega⟩, h⟩
  · cases h
/-- a part of a list -/
def sub? (l : List α) (a b : Int) : Option (List α) := if 0 ≤ a ∧ a ≤ b ∧ b ≤ (l.length : Int) then some ((l.drop a.toNat).take (b.toNat - a.toNat)) else none
theorem lt_some {l : List α} {k : Nat} {x : α} (h : l[k]? = some x) : k < l.length := (List.getElem?_eq_some_iff.1 h).1
theorem bnd {o : Option α} {f : α → Option β} {r : β} (h : o.bind f = some r) : ∃ x, o = some x ∧ f x = some r := by
  cases o with
  | none => cases h
  | some x => exact ⟨x, rfl, h⟩
theorem gif {c : Prop} [Decidable c] {a : Option α} {r : α} (h : (if c then a else none) = some r) : c ∧ a = some r := by
  split at h
  · exact ⟨by assumption, h⟩
  · cases h
theorem ift {b : Bool} {x y r : Option α} (hb : b = true) (h : (if b = true then x else y) = r) : x = r := by rw [if_pos hb] at h; exact h
theorem iff_ {b : Bool} {x y r : Option α} (hb : b = false) (h : (if b = true then x else y) = r) : y = r := by rw [if_neg (by rw [hb]; decide)] at h; exact h
/-- what comes behind a round -/
def after (K : σ → Option ρ) : σ ⊕ ρ → Option ρ
  | .inl s => K s
  | .inr r => some r
/-- over a list -/
def forL (body : Nat → α → σ → Option (σ ⊕ ρ)) (fin : σ → Option ρ) : Nat → List α → σ → Option ρ
  | _, [], s => fin s
  | k, x :: l, s => (body k x s).bind (after (forL body fin (k + 1) l))
/-- over numbers -/
def rng (body : Nat → σ → Option (σ ⊕ ρ)) (fin : σ → Option ρ) : Nat → Nat → σ → Option ρ
  | 0, _, s => fin s
  | n + 1, k, s => (body k s).bind (after (rng body fin n (k + 1)))
def itN (body : σ → Option (σ ⊕ ρ)) : Nat → σ → Option ρ
  | 0, _ => none
  | n + 1, s => (body s).bind (after (itN body n))
open Classical in
/-- without a bound -/
noncomputable def iter (body : σ → Option (σ ⊕ ρ)) (s : σ) : Option ρ := if h : ∃ n r, itN body n s = some r then some h.choose_spec.choose else none
theorem itN_up {body : σ → Option (σ ⊕ ρ)} : ∀ (n m : Nat) (s : σ) (r : ρ), itN body n s = some r → n ≤ m → itN body m s = some r := by
  intro n
  induction n with
  | zero => intro m s r h; cases h
  | succ n ih =>
    intro m s r h hm
    obtain ⟨m, rfl⟩ : ∃ q, m = q + 1 := ⟨m - 1, by omega⟩
    obtain ⟨q, h1, h2⟩ := bnd h
    show (body s).bind _ = _
    rw [h1]
    cases q with
    | inl s' => exact ih m s' r h2 (by omega)
    | inr r' => exact h2
theorem iter_some {body : σ → Option (σ ⊕ ρ)} {s : σ} {r : ρ} : iter body s = some r ↔ ∃ n, itN body n s = some r := by
  unfold iter
  constructor
  · intro h
    split at h
    · rename_i hx
      injection h with h
      subst h
      exact ⟨_, hx.choose_spec.choose_spec⟩
    · cases h
  · rintro ⟨n, hn⟩
    have hx : ∃ n r, itN body n s = some r := ⟨n, r, hn⟩
    rw [dif_pos hx]
    have h1 := hx.choose_spec.choose_spec
    have h2 := itN_up _ (max n hx.choose) s _ hn (Nat.le_max_left _ _)
    have h3 := itN_up _ (max n hx.choose) s _ h1 (Nat.le_max_right _ _)
    rw [h2] at h3
    exact h3.symm
theorem iter_eq (body : σ → Option (σ ⊕ ρ)) (s : σ) : iter body s = (body s).bind (after (iter body)) := by
  apply Option.ext
  intro r
  constructor
  · intro h
    obtain ⟨n, hn⟩ := iter_some.1 h
    cases n with
    | zero => cases hn
    | succ n =>
      obtain ⟨q, h1, h2⟩ := bnd hn
      rw [h1]
      cases q with
      | inl s' => exact iter_some.2 ⟨n, h2⟩
      | inr r' => exact h2
  · intro h
    obtain ⟨q, h1, h2⟩ := bnd h
    cases q with
    | inl s' =>
      obtain ⟨n, hn⟩ := iter_some.1 h2
      exact iter_some.2 ⟨n + 1, by show (body s).bind _ = _; rw [h1]; exact hn⟩
    | inr r' => exact iter_some.2 ⟨1, by show (body s).bind _ = _; rw [h1]; exact h2⟩
theorem outl {E : Option ρ} {q : σ ⊕ ρ} {r : ρ} (H : E.map .inr = some q) (hq : ∀ r', q = .inr r' → r' = r) : E = some r := by
  cases E with
  | none => cases H
  | some e => injection H with H; rw [hq e H.symm]
theorem retl {e : ρ} {q : σ ⊕ ρ} {r : ρ} (H : some (.inr e) = some q) (hq : ∀ r', q = .inr r' → r' = r) : some e = some r := by
  injection H with H; rw [hq e H.symm]
theorem backl {s : σ} {q : σ ⊕ ρ} (H : some (.inl s) = some q) : q = .inl s := by injection H with H; exact H.symm
theorem lt_t {n : Nat} (h : decide ((n : Int) < (n : Int)) = true) : False := by simp at h
theorem lt_f {k n : Nat} (hk : k < n) (h : decide ((k : Int) < (n : Int)) = false) : False := by simp at h; omega
theorem lt_tI {m : Int} (h : decide ((m.toNat : Int) < m) = true) : False := by simp at h; omega
theorem lt_fI {k : Nat} {m : Int} (hk : k < m.toNat) (h : decide ((k : Int) < m) = false) : False := by simp at h; omega
/-- a map's update -/
def upm (m : Bs → α) (k : Bs) (v : α) : Bs → α := fun q => if q = k then v else m q
theorem drop_at {l : List α} {k : Nat} {x : α} {xs : List α} (h : l.drop k = x :: xs) : k < l.length ∧ l[k]? = some x ∧ l.drop (k + 1) = xs := by
  have h1 : k < l.length := by
    rcases Nat.lt_or_ge k l.length with h1 | h1
    · exact h1
    · rw [List.drop_eq_nil_of_le h1] at h; cases h
  rw [List.drop_eq_getElem_cons h1] at h
  injection h with h2 h3
  exact ⟨h1, by rw [List.getElem?_eq_getElem h1, h2], h3⟩
end
end Go.Proofs.Ytmcegaabopcmfaa
