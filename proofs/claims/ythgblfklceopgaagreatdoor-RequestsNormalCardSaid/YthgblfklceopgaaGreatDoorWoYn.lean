/- Plain: loops turn by turn, strings and their bytes as numbers, words joined, strings cut at a byte, trimming. -/
import Derived.Test.YthgblfklceopgaaGreatDoorStYn
import Derived.Test.YthgblfklceopgaaGreatDoorSpYn
namespace Go.Proofs.YthgblfklceopgaaGreatDoor
set_option linter.unusedVariables false
set_option maxRecDepth 20000
section
variable {σ ρ : Type}
theorem zqy {body : σ → Option (σ ⊕ ρ)} {s s' : σ} (h : body s = some (.inl s')) : iter body s = iter body s' := by
  rw [zyk, h]; rfl
theorem zne {body : σ → Option (σ ⊕ ρ)} {s : σ} {r : ρ} (h : body s = some (.inr r)) : iter body s = some r := by
  rw [zyk, h]; rfl
end
theorem zn7 (l : Bs) : strN (zdv l) = l := by
  unfold strN zdv
  rw [List.map_map]
  conv => rhs; rw [← List.map_id l]
  refine List.map_congr_left fun c _ => ?_
  simp
theorem zwh (l : Bs) : byR (zdv l) = true := by
  unfold byR zdv
  rw [List.all_map, List.all_eq_true]
  intro c _
  have := c.toNat_lt
  simp; omega
theorem zn3 (l : Bs) : (zdv l).length = l.length := by simp [zdv]
theorem zlq (a b : Bs) : zdv (a ++ b) = zdv a ++ zdv b := by simp [zdv]
theorem zv8 (B : Nat) (sep : Bs) : ∀ l : List Bs, (∀ x, x ∈ l → x.length ≤ B) → (Lib.join l sep).length ≤ l.length * (B + sep.length)
  | [], _ => by simp [Lib.join_nil]
  | x :: r, h => by
    rw [Lib.join_cons, List.length_append]
    have h1 := h x (by simp)
    have h2 : (Lib.joinTail sep r).length ≤ r.length * (B + sep.length) := by
      have : ∀ r : List Bs, (∀ x, x ∈ r → x.length ≤ B) → (Lib.joinTail sep r).length ≤ r.length * (B + sep.length) := by
        intro r
        induction r with
        | nil => intro _; simp [Lib.joinTail]
        | cons y r ih =>
          intro hr
          have h3 := hr y (by simp)
          have h4 := ih fun z hz => hr z (by simp [hz])
          unfold Lib.joinTail at h4 ⊢
          simp only [List.map_cons, List.flatten_cons, List.length_append, List.length_cons, Nat.succ_mul]
          omega
      exact this r fun y hy => h y (by simp [hy])
    simp only [List.length_cons, Nat.succ_mul]
    omega
theorem z3b {k : Int} {s : zad} (h : SB k s) (hk : k ≤ 1000000) (m : Nat) (hm : m ≤ 1000) (sep : Bs) (hsep : sep.length ≤ 10) (l : List Bs) (hl : l ≠ [] ∧ l.length ≤ 1000) (hB : ∀ x, x ∈ l → x.length ≤ 20) :
    Ok (zct s (m : Int) sep l) fun r => r.1.length ≤ 30000 ∧ SB (k + m) r.2 := by
  unfold zct
  refine ok_g (by omega) ?_
  rw [Int.toNat_natCast]
  refine zw7 (fun j (q : List Int × Int × List Bs) => j ≤ m ∧ SB (k + (j : Int)) (zad.mk q.1 q.2.1) ∧ q.2.2.length ≤ j ∧ ∀ x, x ∈ q.2.2 → x.length ≤ 20) m 0 _ ⟨by omega, h.mono (by omega), by simp, by simp⟩ ?_ ?_
  · rintro j ⟨c5, c6, l7⟩ _ hj ⟨h0, h1, h2, h3⟩
    simp only at h1 h2 h3 ⊢
    unfold zgv
    refine zbd (zqk h1 (by omega) l hl) fun r hr => ok_g (by omega) (zbs ?_)
    refine ⟨by omega, hr.2.mono (by omega), by simp; omega, fun x hx => ?_⟩
    rcases List.mem_append.1 hx with h | h
    · exact h3 x h
    · have : x = r.1 := by simpa using h
      rw [this]; exact hB _ hr.1
  · rintro ⟨c5, c6, l7⟩ ⟨h0, h1, h2, h3⟩
    simp only at h1 h2 h3 ⊢
    have hj := zv8 20 sep l7 h3
    have hmm : l7.length * (20 + sep.length) ≤ 1000 * 30 := Nat.mul_le_mul (by omega) (by omega)
    unfold zgw
    have hJ : zc5 l7 sep = some (Lib.join l7 sep) := by
      unfold zc5
      rw [if_pos ⟨by omega, by omega⟩]
    rw [hJ]
    exact zbs ⟨by simp only; omega, h1.mono (by omega)⟩
theorem zpf (c : UInt8) : ∀ s : Bs, c ∉ s ∨ ∃ p q, s = p ++ c :: q ∧ c ∉ p
  | [] => .inl (by simp)
  | x :: s => by
    by_cases h : x = c
    · exact .inr ⟨[], s, by rw [h]; rfl, by simp⟩
    · rcases zpf c s with h1 | ⟨p, q, rfl, h1⟩
      · exact .inl (by simp [h1, Ne.symm h])
      · exact .inr ⟨x :: p, q, rfl, by simp [h1, Ne.symm h]⟩
theorem z2a (c : UInt8) : ∀ s : Bs, c ∉ s → Lib.index s [c] = -1
  | [], _ => rfl
  | x :: s, h => by
    rw [zr8, if_neg (fun e => h (by simp [e])), z2a c s (fun e => h (by simp [e]))]
    try rfl
theorem zym (c : UInt8) (q : Bs) : ∀ p : Bs, c ∉ p → Lib.index (p ++ c :: q) [c] = (p.length : Int)
  | [], _ => by rw [List.nil_append, zr8, if_pos rfl]; rfl
  | x :: p, h => by
    rw [List.cons_append, zr8, if_neg (fun e => h (by simp [e])), zym c q p (fun e => h (by simp [e])), if_neg (by simp)]
    simp
theorem zzu (c : UInt8) (s : Bs) (h : c ∉ s) : Lib.cut s [c] = (s, [], false) := by
  unfold Lib.cut
  rw [z2a c s h]; rfl
theorem zwf (c : UInt8) (p q : Bs) (h : c ∉ p) : Lib.cut (p ++ c :: q) [c] = (p, q, true) := by
  unfold Lib.cut
  rw [zym c q p h, if_pos (by omega)]
  simp
def trR (c : UInt8) (s : Bs) : Bs := (s.reverse.dropWhile (· == c)).reverse
def trL (c : UInt8) (s : Bs) : Bs := s.dropWhile (· == c)
theorem z3m (c b : UInt8) (l : Bs) : trR c (l ++ [b]) = if b = c then trR c l else l ++ [b] := by
  unfold trR
  rw [List.reverse_append, List.reverse_singleton, List.singleton_append, List.dropWhile_cons]
  by_cases h : b = c
  · simp [h]
  · simp [h]
theorem z6d (c : UInt8) (s : Bs) : (trR c s).length ≤ s.length := by
  unfold trR
  rw [List.length_reverse]
  have := (List.dropWhile_sublist (l := s.reverse) (· == c)).length_le
  simpa using this
theorem zws (c : UInt8) (s : Bs) : s.length ≤ 1000000000 → zdg s (c.toNat : Int) = some (trR c s) := by
  refine z6n (P := fun s => s.length ≤ 1000000000 → zdg s (c.toNat : Int) = some (trR c s)) (fun _ => ?_) (fun l b ih h => ?_) s
  · unfold zdg
    exact zne rfl
  · have hl : (l ++ [b]).length = l.length + 1 := by simp
    have e1 : wr (((l ++ [b]).length : Int) - 1) = (l.length : Int) := by rw [hl, zlh (by omega)]; omega
    have e2 : at? (l ++ [b]) (l.length : Int) = some b := by
      unfold at?
      rw [if_pos (by omega), Int.toNat_natCast]; simp
    have e3 : sub? (l ++ [b]) 0 (l.length : Int) = some l := by
      rw [zy3 _ _ (by omega)]; simp
    rw [z3m]
    by_cases hb : b = c
    · rw [if_pos hb]
      have := ih (by omega)
      unfold zdg at this ⊢
      refine (zqy (s' := l) ?_).trans this
      unfold zgh zdq
      rw [if_pos (by simp), e1, e2]
      simp only [Option.bind_some]
      rw [if_pos (by simp [hb]), e3]; rfl
    · rw [if_neg hb]
      unfold zdg
      refine zne ?_
      unfold zgh zdq zgi
      rw [if_pos (by simp), e1, e2]
      simp only [Option.bind_some]
      have hn : ¬ (b.toNat : Int) = (c.toNat : Int) := fun h => hb (UInt8.toNat_inj.1 (by omega))
      rw [if_neg (by simpa using hn)]; rfl
theorem ztx (c : UInt8) : ∀ s : Bs, s.length ≤ 1000000000 → zeo s (c.toNat : Int) = some (trL c s)
  | [], _ => by
    unfold zeo
    exact zne rfl
  | b :: l, h => by
    simp only [List.length_cons] at h
    have e3 : sub? (b :: l) 1 ((b :: l).length : Int) = some l := by
      unfold sub?
      rw [if_pos (by simp; omega)]
      simp
    unfold trL
    rw [List.dropWhile_cons]
    by_cases hb : b = c
    · rw [if_pos (by simp [hb])]
      have := ztx c l (by omega)
      unfold zeo at this ⊢
      refine (zqy (s' := l) ?_).trans this
      unfold zgz zd3
      rw [if_pos (by simp), List.getElem?_cons_zero]
      simp only [Option.bind_some]
      rw [if_pos (by simp [hb]), e3]; rfl
    · rw [if_neg (by simp [hb])]
      unfold zeo
      refine zne ?_
      unfold zgz zd3 zg0
      rw [if_pos (by simp), List.getElem?_cons_zero]
      simp only [Option.bind_some]
      have hn : ¬ (b.toNat : Int) = (c.toNat : Int) := fun h => hb (UInt8.toNat_inj.1 (by omega))
      rw [if_neg (by simpa using hn)]; rfl
theorem z0z (c : UInt8) (hc : c.toNat < 128) (s : Bs) (h : s.length ≤ 1000000000) : zj8 s [c] = some (trL c (trR c s)) := by
  unfold zj8 zke
  by_cases h0 : s = []
  · subst h0; rfl
  · have := z6d c s
    rw [if_neg (by simp [h0]), if_pos (by simp), List.getElem?_cons_zero]
    simp only [Option.bind_some]
    rw [if_pos (by simp; omega), zws c s h]
    simp only [Option.bind_some]
    rw [ztx c _ (by omega)]; rfl
theorem z1d : zkm = some true := by
  have h1 : zgd [47, 97, 47, 46, 46, 47, 98] = some 0 := by decide +kernel
  have h2 : zfh [47, 97, 47, 46, 46, 47, 98] = some ([47, 97, 47, 46, 46, 47, 98], true) := by
    unfold zfh
    exact zl5.2 ⟨9, by decide +kernel⟩
  have h3 : zb8 [97, 47, 46, 46, 47, 98] [47] = some [[97], [46, 46], [98]] := by
    unfold zb8
    rw [if_pos (by decide), zo3]
    decide +kernel
  have h4 : sub? ([47, 97, 47, 46, 46, 47, 98] : Bs) 1 7 = some [97, 47, 46, 46, 47, 98] := by decide +kernel
  have h5 : forL (fun (k : Nat) (x : Bs) (s : (List Bs)) => zfe [[97], [46, 46], [98]] k x s) (fun (s : (List Bs)) => zgl s) 0 [[97], [46, 46], [98]] [] = some ([47, 98], 0) := by decide +kernel
  have h6 : zek [47, 97, 47, 46, 46, 47, 98] = some ([47, 98], 0) := by
    unfold zek
    rw [h1]
    simp only [Option.bind_some, ne_eq, not_true_eq_false, decide_false, Bool.false_eq_true, if_false, h2, Bool.not_true]
    show (sub? ([47, 97, 47, 46, 46, 47, 98] : Bs) 1 7).bind _ = _
    rw [h4]
    simp only [Option.bind_some]
    rw [h3]
    simp only [Option.bind_some]
    rw [if_pos (by decide)]
    exact h5
  unfold zkm
  rw [h6]; rfl
end Go.Proofs.YthgblfklceopgaaGreatDoor
