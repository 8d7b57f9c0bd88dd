/- Regions of the abstract machine: a run in the order of the text, and a check that no two operations that clash are left without an order, give every order. -/
import Derived.Test.YtmcegaabopcmfaaAbs
import Derived.Orders
namespace Go.Proofs.Ytmcegaabopcmfaa
open Go.RowKit
set_option linter.unusedVariables false

section mem
variable {β : Type}
def upl (f : Nat → β) : List (Nat × β) → Nat → β
  | [] => f
  | (k, v) :: l => fun x => cond (Nat.beq x k) v (upl f l x)
def keys (l : List (Nat × β)) : List Nat := l.map (·.1)
theorem beq_false_of {x k : Nat} (h : x ≠ k) : Nat.beq x k = false := by
  cases hb : Nat.beq x k
  · rfl
  · exact absurd (Nat.eq_of_beq_eq_true hb) h
theorem upl_out (f : Nat → β) (l : List (Nat × β)) (x : Nat) (h : x ∉ keys l) : upl f l x = f x := by
  induction l with
  | nil => rfl
  | cons p l ih =>
    obtain ⟨k, v⟩ := p
    simp only [keys, List.map_cons, List.mem_cons, not_or] at h
    simp only [upl, beq_false_of h.1, cond_false]
    exact ih h.2
theorem upl_in (f f' : Nat → β) (l : List (Nat × β)) (x : Nat) (h : x ∈ keys l) : upl f l x = upl f' l x := by
  induction l with
  | nil => cases h
  | cons p l ih =>
    obtain ⟨k, v⟩ := p
    simp only [upl]
    by_cases hk : x = k
    · subst hk
      have : Nat.beq x x = true := by simp
      simp only [this, cond_true]
    · simp only [beq_false_of hk, cond_false]
      simp only [keys, List.map_cons, List.mem_cons] at h
      exact ih (h.resolve_left hk)
def memD (W : Nat → List (Nat × β)) (D : Nat → Bool) (f : Nat → β) : Nat → Nat → β
  | 0 => f
  | i + 1 => if D i then upl (memD W D f i) (W i) else memD W D f i
variable {W : Nat → List (Nat × β)} {D : Nat → Bool} {f : Nat → β} {i n k : Nat}
theorem memD_below (hb : ∀ j, j < i → k ∈ keys (W j) → D j = true) : memD W D f i k = memD W (fun _ => true) f i k := by
  induction i with
  | zero => rfl
  | succ i ih =>
    have h1 := ih fun j hj => hb j (by omega)
    simp only [memD, if_true]
    by_cases hk : k ∈ keys (W i)
    · rw [if_pos (hb i (by omega) hk)]
      exact upl_in _ _ _ _ hk
    · rw [upl_out _ _ _ hk]
      split
      · rw [upl_out _ _ _ hk]; exact h1
      · exact h1
theorem memD_above (hin : i ≤ n) (ha : ∀ j, i ≤ j → j < n → k ∈ keys (W j) → D j = false) : memD W D f n k = memD W D f i k := by
  induction n with
  | zero => obtain rfl : i = 0 := by omega
            rfl
  | succ n ih =>
    rcases Nat.lt_or_ge n i with hl | hl
    · obtain rfl : i = n + 1 := by omega
      rfl
    · have h1 := ih hl fun j hj hjn => ha j hj (by omega)
      simp only [memD]
      by_cases hk : k ∈ keys (W n)
      · rw [if_neg (by rw [ha n hl (by omega) hk]; simp)]
        exact h1
      · split
        · rw [upl_out _ _ _ hk]; exact h1
        · exact h1
theorem memD_agree (hin : i ≤ n) (hb : ∀ j, j < i → k ∈ keys (W j) → D j = true) (ha : ∀ j, i ≤ j → j < n → k ∈ keys (W j) → D j = false) : memD W D f n k = memD W (fun _ => true) f i k :=
  (memD_above hin ha).trans (memD_below hb)
theorem memD_set {D' : Nat → Bool} (hin : i < n) (hD : D i = false) (hD' : ∀ j, D' j = (D j || decide (j = i)))
    (hl : ∀ j, i < j → j < n → D j = true → ∀ k, k ∈ keys (W i) → k ∉ keys (W j)) : memD W D' f n = upl (memD W D f n) (W i) := by
  have h0 : ∀ m, m ≤ i → memD W D' f m = memD W D f m := by
    intro m
    induction m with
    | zero => intro _; rfl
    | succ m ih =>
      intro hm
      have : D' m = D m := by rw [hD' m]; have : m ≠ i := by omega
                              simp [this]
      simp only [memD, this, ih (by omega)]
  have h1 : ∀ m, i < m → m ≤ n → memD W D' f m = upl (memD W D f m) (W i) := by
    intro m
    induction m with
    | zero => intro h; omega
    | succ m ih =>
      intro hm hmn
      by_cases hmi : m = i
      · subst hmi
        have e1 : D' m = true := by rw [hD' m]; simp
        simp only [memD, e1, hD, if_true, h0 m (Nat.le_refl _)]
        rfl
      · have e1 : D' m = D m := by rw [hD' m]; simp [hmi]
        have h2 := ih (by omega) (by omega)
        simp only [memD, e1, h2]
        cases hDm : D m
        · rfl
        · simp only [if_true]
          funext x
          have hk := hl m (by omega) (by omega) hDm
          by_cases hx : x ∈ keys (W i)
          · rw [upl_out _ (W m) _ (hk x hx)]
            exact upl_in _ _ _ _ hx
          · rw [upl_out _ (W i) _ hx]
            by_cases hy : x ∈ keys (W m)
            · exact upl_in _ _ _ _ hy
            · rw [upl_out _ (W m) _ hy, upl_out _ (W m) _ hy, upl_out _ (W i) _ hx]
  exact h1 n hin (Nat.le_refl _)
end mem

/-- operations ahead of number j, by the edges -/
def ancOf (ops : Array Oper) : Nat → Nat → List Nat
  | 0, _ => []
  | n + 1, j => match ops[j]? with
    | none => []
    | some o => o.after.toList.flatMap fun e => if Region.binds .any e then e.on :: ancOf ops n e.on else []
theorem ancOf_in {ops : Array Oper} {D : Nat → Bool} (hD : ∀ j o, ops[j]? = some o → D j = true → ∀ e ∈ o.after, Region.binds .any e = true → D e.on = true) :
    ∀ n j i, i ∈ ancOf ops n j → D j = true → D i = true := by
  intro n
  induction n with
  | zero => intro j i h; cases h
  | succ n ih =>
    intro j i h hj
    unfold ancOf at h
    cases ho : ops[j]? with
    | none => rw [ho] at h; cases h
    | some o =>
      rw [ho] at h
      simp only [List.mem_flatMap, Array.mem_toList_iff] at h
      obtain ⟨e, he, hi⟩ := h
      by_cases hb : Region.binds .any e = true
      · rw [if_pos hb] at hi
        have hDe := hD j o ho hj e he hb
        rcases List.mem_cons.1 hi with rfl | hi
        · exact hDe
        · exact ih _ _ hi hDe
      · rw [if_neg hb] at hi; cases hi

structure Tr where
  skip : Bool
  rd : List (Nat × Option (Option AObj))
  wr : List (Nat × Option (Option AObj))
  s : Slot

def ofConst (v : Value) : Slot := .dat (vval v)
def evS (f : Nat → Slot) : Operand → Slot
  | .tmp t => f t
  | .const v => ofConst v
  | _ => .any

/-- what an operation does -/
def Stp (P : Program) (o : Oper) (f : Nat → Slot) (T : Tr) : Prop :=
  ∀ (X : Ctx) (f' : Nat → Slot) (own : Own) (g : Gh) (a : Act) (w : World) (Q : Exit → Act → World → Prop), Rel X f' own g a w → (∀ d, o.dst = some d → d < X.N) →
    (∀ x, x ∈ o.op.operands → evS f' x = evS f x) → (∀ q, q ∈ T.rd → own q.1 = q.2) →
    ∀ K : Act → World → Prop, (∀ g' v w', Rel X (updS f' o.dst T.s) (upl own T.wr) g' (a.put o.dst v) w' → K (a.put o.dst v) w') → o.wp P a w K Q

/-- is an operation under this guard left out? -/
def gskip (v : Value) (want : Bool) : Bool := match v with
  | .bool b => b != want
  | _ => true
/-- the operation in the order of the text -/
def StepOK (P : Program) (ops : Array Oper) (o : Oper) (f : Nat → Slot) (own : Own) (T : Tr) : Prop :=
  (match o.guard with
    | none => T.skip = false
    | some (j, want) => ∃ d v, (ops[j]?).bind (·.dst) = some d ∧ f d = .dat (vval v) ∧ T.skip = gskip v want) ∧
  (T.skip = false → Stp P o f T ∧ (∀ q, q ∈ T.rd → own q.1 = q.2)) ∧ (T.skip = true → T.s = .dat (vval undef) ∧ T.rd = [] ∧ T.wr = []) ∧ (∀ k, k ∈ keys T.wr → k ∈ keys T.rd)

def Wf (ops : Array Oper) (T : Nat → Tr) (i : Nat) : List (Nat × Slot) := match (ops[i]?).bind (·.dst) with | some d => [(d, (T i).s)] | none => []
def Wo (T : Nat → Tr) (i : Nat) : List (Nat × Option (Option AObj)) := (T i).wr

theorem updS_upl (f : Nat → Slot) (d : Option Nat) (s : Slot) : updS f d s = upl f (match d with | some d => [(d, s)] | none => []) := by
  cases d <;> rfl

/-- no two operations that clash are without an order -/
def looks (ops : Array Oper) (i : Nat) : List Nat := match ops[i]? with | some o => o.looksAt ops | none => []
def dstOf (ops : Array Oper) (i : Nat) : List Nat := match (ops[i]?).bind (·.dst) with | some d => [d] | none => []
def meets (a b : List Nat) : Bool := a.any fun x => b.contains x
def clash (ops : Array Oper) (rd wr : Nat → List Nat) (i j : Nat) : Bool :=
  meets (dstOf ops i) (looks ops j) || meets (dstOf ops j) (looks ops i) || meets (dstOf ops i) (dstOf ops j) || meets (wr i) (rd j) || meets (rd i) (wr j)
def confOK (ops : Array Oper) (lg : List (List Nat × List Nat)) : Bool :=
  (List.range ops.size).all fun j => let an := ancOf ops ops.size j
    (List.range j).all fun i => !clash ops (fun i => (lg.getD i ([], [])).1) (fun i => (lg.getD i ([], [])).2) i j || an.contains i
def edgesOK (ops : Array Oper) : Bool :=
  (List.range ops.size).all fun i => match ops[i]? with | some o => o.after.toList.all fun e => !Region.binds .any e || Nat.blt e.on i | none => true
def dstsOK (N : Nat) (ops : Array Oper) : Bool := ops.toList.all fun o => match o.dst with | some d => Nat.blt d N | none => true

theorem meets_of {a b : List Nat} {x : Nat} (h1 : x ∈ a) (h2 : x ∈ b) : meets a b = true := by
  unfold meets
  rw [List.any_eq_true]
  exact ⟨x, h1, by simpa using h2⟩

def cnt (D : Nat → Bool) : Nat → Nat
  | 0 => 0
  | n + 1 => cnt D n + (if D n then 0 else 1)
theorem cnt_zero {D : Nat → Bool} {n : Nat} (h : cnt D n = 0) : ∀ i, i < n → D i = true := by
  induction n with
  | zero => intro i hi; omega
  | succ n ih =>
    intro i hi
    simp only [cnt] at h
    rcases Nat.lt_or_ge i n with hl | hl
    · exact ih (by omega) i hl
    · obtain rfl : i = n := by omega
      cases hd : D i
      · rw [hd] at h; simp at h
      · rfl
theorem cnt_set {D D' : Nat → Bool} {i n : Nat} (hin : i < n) (hD : D i = false) (hD' : ∀ j, D' j = (D j || decide (j = i))) : cnt D' n + 1 = cnt D n := by
  have h0 : ∀ m, m ≤ i → cnt D' m = cnt D m := by
    intro m
    induction m with
    | zero => intro _; rfl
    | succ m ih =>
      intro hm
      have : D' m = D m := by rw [hD' m]; have : m ≠ i := by omega
                              simp [this]
      simp only [cnt, this, ih (by omega)]
  have h1 : ∀ m, i < m → cnt D' m + 1 = cnt D m := by
    intro m
    induction m with
    | zero => intro h; omega
    | succ m ih =>
      intro hm
      by_cases hmi : m = i
      · subst hmi
        have e1 : D' m = true := by rw [hD' m]; simp
        simp only [cnt, e1, hD, h0 m (Nat.le_refl _)]; simp
      · have e1 : D' m = D m := by rw [hD' m]; simp [hmi]
        have h2 := ih (by omega)
        simp only [cnt, e1]; omega
  exact h1 n hin
theorem cnt_le (D : Nat → Bool) (n : Nat) : cnt D n ≤ n := by
  induction n with
  | zero => exact Nat.le_refl _
  | succ n ih => simp only [cnt]; split <;> omega
end Go.Proofs.Ytmcegaabopcmfaa
