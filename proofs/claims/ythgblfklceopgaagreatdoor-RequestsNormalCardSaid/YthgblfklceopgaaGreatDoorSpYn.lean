/- Plain: strings.Split at one byte, sorted lists of strings, slices.Compact, slices.DeleteFunc. No program. -/
import Derived.Test.YthgblfklceopgaaGreatDoorOkYn
namespace Go.Proofs.YthgblfklceopgaaGreatDoor
set_option linter.unusedVariables false
set_option maxRecDepth 20000
def spl (c : UInt8) : Bs → List Bs
  | [] => [[]]
  | b :: l => if b = c then [] :: spl c l else match spl c l with
    | p :: ps => (b :: p) :: ps
    | [] => [[b]]
theorem z5p (c : UInt8) (s : Bs) : spl c s ≠ [] := by
  cases s with
  | nil => simp [spl]
  | cons b l =>
    unfold spl
    split
    · simp
    · split <;> simp
theorem zr8 (c b : UInt8) (l : Bs) : Lib.index (b :: l) [c] = if b = c then 0 else if Lib.index l [c] == -1 then -1 else Lib.index l [c] + 1 := by
  rw [Lib.index]
  by_cases h : b = c
  · subst h; simp
  · have hb : (c == b) = false := by simpa using fun e : c = b => h e.symm
    have : List.isPrefixOf [c] (b :: l) = false := by simp [List.isPrefixOf, hb]
    rw [this, if_neg h]; rfl
theorem zww (c : UInt8) : ∀ s : Bs, Lib.splitK [c] 0 (Lib.count s [c]) s = spl c s
  | [] => by
    rw [Lib.count_miss (by rfl)]
    rfl
  | b :: l => by
    have ih := zww c l
    have hi := zr8 c b l
    by_cases h : b = c
    · rw [if_pos h] at hi
      rw [Lib.count_hit (i := 0) (by simp) (by simpa using hi), Nat.add_comm, Lib.splitK, if_neg (by rw [hi]; decide), hi, spl, if_pos h]
      simp only [Int.toNat_zero, Nat.zero_add, List.length_cons, List.length_nil, Nat.add_zero, List.take_zero, List.drop_succ_cons, List.drop_zero, ih]
    · rw [if_neg h] at hi
      have hs : spl c (b :: l) = match spl c l with | p :: ps => (b :: p) :: ps | [] => [[b]] := by rw [spl, if_neg h]
      have hge := Lib.index_ge l [c]
      by_cases h1 : Lib.index l [c] = -1
      · rw [if_pos (by simpa using h1)] at hi
        rw [Lib.count_miss h1] at ih
        have ih : [l] = spl c l := ih
        rw [Lib.count_miss hi, hs, ← ih]
        rfl
      · obtain ⟨i, h2⟩ : ∃ i : Nat, Lib.index l [c] = i := ⟨(Lib.index l [c]).toNat, by omega⟩
        rw [if_neg (by simpa using h1), h2] at hi
        have hi' : Lib.index (b :: l) [c] = ((i + 1 : Nat) : Int) := by rw [hi]; omega
        rw [Lib.count_hit (i := i) (by simp) h2, Nat.add_comm, Lib.splitK, if_neg (by rw [h2]; simp), h2] at ih
        rw [Lib.count_hit (i := i + 1) (by simp) hi', Nat.add_comm, Lib.splitK, if_neg (by rw [hi']; simp; omega), hi', hs, ← ih]
        simp
theorem zo3 (s : Bs) (c : UInt8) : zrf s [c] = spl c s := by
  unfold zrf
  rw [Lib.splitB_data]
  exact zww c s
theorem zvt (c : UInt8) : ∀ s : Bs, (spl c s).length ≤ s.length + 1
  | [] => by simp [spl]
  | b :: l => by
    have ih := zvt c l
    unfold spl
    split
    · simp only [List.length_cons]; omega
    · split
      · rename_i p ps h; rw [h] at ih; simp only [List.length_cons] at ih ⊢; omega
      · simp
theorem zqj (c : UInt8) : ∀ (s : Bs) (p : Bs), p ∈ spl c s → p.length ≤ s.length
  | [], p, h => by simp [spl] at h; subst h; simp
  | b :: l, p, h => by
    have ih := zqj c l
    unfold spl at h
    split at h
    · rcases List.mem_cons.1 h with rfl | h
      · simp
      · have := ih p h; simp only [List.length_cons]; omega
    · split at h
      · rename_i q ps hq
        rw [hq] at ih
        rcases List.mem_cons.1 h with rfl | h
        · have := ih q (by simp); simp only [List.length_cons]; omega
        · have := ih p (List.mem_cons_of_mem _ h); simp only [List.length_cons]; omega
      · simp at h; subst h; simp
abbrev z87 (l : List Bs) : List Bs := l.mergeSort fun x y => decide (x ≤ y)
abbrev Rise (l : List Bs) : Prop := l.Pairwise fun x y => x < y
section
variable {α : Type} [Inhabited α] [DecidableEq α]
end
theorem z6n {α : Type} {P : List α → Prop} (h0 : P []) (h1 : ∀ l x, P l → P (l ++ [x])) (l : List α) : P l := by
  have : ∀ n (l : List α), l.length = n → P l := by
    intro n
    induction n with
    | zero => intro l h; rw [List.eq_nil_of_length_eq_zero h]; exact h0
    | succ n ih =>
      intro l h
      rcases List.eq_nil_or_concat l with rfl | ⟨l', x, rfl⟩
      · simp at h
      · rw [List.concat_eq_append]
        exact h1 _ _ (ih l' (by simpa using h))
  exact this _ l rfl
def setB (l : List Bs) : List Bs := Lib.compact (z87 l)
noncomputable def gDel {α : Type} (z : α) (s1 : List α) (p1 : α → Option Bool) : Option (List α) :=
  (gIdx s1 p1).bind fun (r2 : Int) => if decide (r2 = (-1)) then some s1 else (iter (fun (s : Int × Int × (List α)) => if decide (s.2.1 < (s.2.2.length : Int)) then ((at? s.2.2 s.2.1).bind fun (x10 : α) => (p1 x10).bind fun (r12 : Bool) => if !r12 then ((at? s.2.2 s.1).bind fun (x15 : α) => some (.inl (wr (s.1 + 1), wr (s.2.1 + 1), (s.2.2.set s.1.toNat x10)))) else some (.inl (s.1, wr (s.2.1 + 1), s.2.2))) else (Option.map .inr (if (0 : Int) ≤ s.1 ∧ s.1 < (s.2.2.length : Int) then (if (0 : Int) ≤ s.1 ∧ s.1 ≤ ((s.2.2.take s.1.toNat ++ List.replicate (s.2.2.length - s.1.toNat) z).length : Int) then (some ((s.2.2.take s.1.toNat ++ List.replicate (s.2.2.length - s.1.toNat) z).take s.1.toNat)) else none) else none))) (r2, wr (r2 + 1), s1))
theorem zva {α : Type} (q : α → Bool) : ∀ (l : List α) (k : Nat), 0 ≤ fdx q k l → (l.take ((fdx q k l).toNat - k)).filter (fun x => !q x) = l.take ((fdx q k l).toNat - k)
  | [], k, h => by simp [fdx] at h
  | x :: l, k, h => by
    cases hq : q x
    · simp only [fdx, hq, if_false, Bool.false_eq_true] at h ⊢
      have ih := zva q l (k + 1) h
      have h1 := (zxh q l (k + 1)).2 h
      have : (fdx q (k + 1) l).toNat - k = ((fdx q (k + 1) l).toNat - (k + 1)) + 1 := by omega
      rw [this, List.take_succ_cons, List.filter_cons, hq]
      simp [ih]
    · simp [fdx, hq]
theorem zwb {α : Type} (z : α) (l : List α) {p : α → Option Bool} (q : α → Bool) (hl : l.length ≤ 1000000000) (hp : ∀ x, x ∈ l → p x = some (q x)) : gDel z l p = some (l.filter fun x => !q x) := by
  unfold gDel
  rw [z2f l q hl hp]
  simp only [Option.bind_some]
  by_cases h0 : l.any q = true
  · obtain ⟨h1, x, h2, h3, h4⟩ := z8o q l h0
    have hlt := zue h3
    rw [if_neg (by simp; omega), zlh (by omega)]
    have hb := zva q l 0 h1
    simp only [Nat.sub_zero] at hb
    refine z8f (z62 (fun s : Int × Int × List α => 0 ≤ s.1 ∧ s.1 < s.2.1 ∧ s.2.1 ≤ (l.length : Int) ∧ s.2.2.length = l.length ∧ s.2.2.take s.1.toNat = (l.take s.2.1.toNat).filter (fun x => !q x) ∧ s.2.2.drop s.2.1.toNat = l.drop s.2.1.toNat) (fun s => (l.length - s.2.1.toNat)) ?_ _ ?_)
    · rintro ⟨i, j, s⟩ ⟨g1, g2, g3, g4, g5, g6⟩
      simp only at g1 g2 g3 g4 g5 g6
      refine zmf (fun hc => ?_) (fun hc => ?_)
      · have hc : j < (s.length : Int) := by simpa using hc
        simp only at hc ⊢
        have hj : j.toNat < l.length := by omega
        have e1 : s[j.toNat]? = some l[j.toNat] := by
          have := congrArg (fun t => t[0]?) g6
          simp only [List.getElem?_drop, Nat.add_zero, List.getElem?_eq_getElem hj] at this
          exact this
        have e2 : at? s j = some l[j.toNat] := by unfold at?; rw [if_pos (by omega)]; exact e1
        rw [e2, zlh (n := j + 1) (by omega)]
        simp only [Option.bind_some, hp _ (List.getElem_mem hj)]
        have ej : (j + 1).toNat = j.toNat + 1 := by omega
        have etk : l.take (j.toNat + 1) = l.take j.toNat ++ [l[j.toNat]] := by rw [List.take_add_one, List.getElem?_eq_getElem hj]; rfl
        cases hq : q l[j.toNat]
        · simp only [Bool.not_false, if_true]
          have e3 : at? s i = some s[i.toNat] := by unfold at?; rw [if_pos g1, List.getElem?_eq_getElem (by omega)]
          rw [e3, zlh (n := i + 1) (by omega)]
          simp only [Option.bind_some]
          refine zbs ?_
          have ei : (i + 1).toNat = i.toNat + 1 := by omega
          refine ⟨⟨by simp only; omega, by simp only; omega, by simp only; omega, by simpa using g4, ?_, ?_⟩, by simp only; omega⟩
          · simp only
            rw [ei, ej, etk, List.filter_append, ← g5, List.take_add_one, List.getElem?_set_self (by omega), List.take_set_of_le (Nat.le_refl _)]
            simp [hq]
          · simp only
            rw [ej, List.drop_set_of_lt (by omega)]
            have := congrArg (List.drop 1) g6
            simpa [List.drop_drop, Nat.add_comm] using this
        · simp only [Bool.not_true, Bool.false_eq_true, if_false]
          refine zbs ⟨⟨g1, by simp only; omega, by simp only; omega, g4, ?_, ?_⟩, by simp only; omega⟩
          · simp only
            rw [ej, etk, List.filter_append, ← g5]
            simp [hq]
          · simp only
            rw [ej]
            have := congrArg (List.drop 1) g6
            simpa [List.drop_drop, Nat.add_comm] using this
      · have hc : ¬ j < (s.length : Int) := by simpa using hc
        have hj : j.toNat = l.length := by omega
        rw [if_pos (by simp only; omega), if_pos (by simp only [List.length_append, List.length_take, List.length_replicate]; omega)]
        refine zbs ?_
        show List.take i.toNat (List.take i.toNat s ++ _) = _
        rw [List.take_append_of_le_length (by rw [List.length_take]; omega), List.take_take, Nat.min_self, g5, hj, List.take_length]
    · refine ⟨h1, by simp only; omega, by simp only; omega, rfl, ?_, rfl⟩
      simp only
      have e1 : (fdx q 0 l + 1).toNat = (fdx q 0 l).toNat + 1 := by omega
      rw [e1, List.take_add_one, h3, List.filter_append, hb]
      simp [h4]
  · have h0 : l.any q = false := by simpa using h0
    have h1 := (zxh q l 0).1.2 h0
    have h2 : fdx q 0 l = -1 := by
      have : ∀ (l : List α) k, fdx q k l < 0 → fdx q k l = -1 := by
        intro l
        induction l with
        | nil => intro k _; rfl
        | cons x l ih =>
          intro k h
          unfold fdx at h ⊢
          split
          · rename_i hq; rw [if_pos hq] at h; omega
          · rename_i hq; rw [if_neg hq] at h; exact ih _ h
      exact this l 0 h1
    rw [if_pos (by simpa using h2)]
    congr 1
    symm
    rw [List.filter_eq_self]
    intro x hx
    have := List.any_eq_false.1 h0 x hx
    simpa using this
end Go.Proofs.YthgblfklceopgaaGreatDoor
