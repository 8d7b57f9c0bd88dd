/- Plain: loops turn by turn, strings and their bytes as numbers, words joined, strings cut at a byte, trimming. -/
import Derived.Test.YtgjfcdcpiamikaaGreatDoorStYz
import Derived.Test.YtgjfcdcpiamikaaGreatDoorSpYz
namespace Go.Proofs.YtgjfcdcpiamikaaGreatDoor
set_option linter.unusedVariables false
set_option maxRecDepth 20000
section
variable {σ ρ : Type}
theorem iter_in {body : σ → Option (σ ⊕ ρ)} {s s' : σ} (h : body s = some (.inl s')) : iter body s = iter body s' := by
  rw [iter_eq, h]; rfl
theorem iter_out {body : σ → Option (σ ⊕ ρ)} {s : σ} {r : ρ} (h : body s = some (.inr r)) : iter body s = some r := by
  rw [iter_eq, h]; rfl
end
theorem strN_nums' (l : Bs) : strN (numsB l) = l := by
  unfold strN numsB
  rw [List.map_map]
  conv => rhs; rw [← List.map_id l]
  refine List.map_congr_left fun c _ => ?_
  simp
theorem byR_nums (l : Bs) : byR (numsB l) = true := by
  unfold byR numsB
  rw [List.all_map, List.all_eq_true]
  intro c _
  have := c.toNat_lt
  simp; omega
theorem nums_len (l : Bs) : (numsB l).length = l.length := by simp [numsB]
theorem nums_app (a b : Bs) : numsB (a ++ b) = numsB a ++ numsB b := by simp [numsB]
theorem join_le (B : Nat) (sep : Bs) : ∀ l : List Bs, (∀ x, x ∈ l → x.length ≤ B) → (Lib.join l sep).length ≤ l.length * (B + sep.length)
  | [], _ => by simp [Lib.join_nil]
  | x :: r, h => by
    rw [Lib.join_cons, List.length_append]
    have h1 := h x (by simp)
    have h2 : (Lib.joinTail sep r).length ≤ r.length * (B + sep.length) := by
      have : ∀ r : List Bs, (∀ x, x ∈ r → x.length ≤ B) → (Lib.joinTail sep r).length ≤ r.length * (B + sep.length) := by
        intro r
        induction r with
        | nil => intro _; simp [Lib.joinTail]
        | cons y r ih =>
          intro hr
          have h3 := hr y (by simp)
          have h4 := ih fun z hz => hr z (by simp [hz])
          unfold Lib.joinTail at h4 ⊢
          simp only [List.map_cons, List.flatten_cons, List.length_append, List.length_cons, Nat.succ_mul]
          omega
      exact this r fun y hy => h y (by simp [hy])
    simp only [List.length_cons, Nat.succ_mul]
    omega
theorem words_ok {k : Int} {s : S_gatemake_Stream} (h : SB k s) (hk : k ≤ 1000000) (m : Nat) (hm : m ≤ 1000) (sep : Bs) (hsep : sep.length ≤ 10) (l : List Bs) (hl : l ≠ [] ∧ l.length ≤ 1000) (hB : ∀ x, x ∈ l → x.length ≤ 20) :
    Ok (m_gatemake_Stream_Words s (m : Int) sep l) fun r => r.1.length ≤ 30000 ∧ SB (k + m) r.2 := by
  unfold m_gatemake_Stream_Words
  refine ok_g (by omega) ?_
  rw [Int.toNat_natCast]
  refine ok_rng (fun j (q : List Int × Int × List Bs) => j ≤ m ∧ SB (k + (j : Int)) (S_gatemake_Stream.mk q.1 q.2.1) ∧ q.2.2.length ≤ j ∧ ∀ x, x ∈ q.2.2 → x.length ≤ 20) m 0 _ ⟨by omega, h.mono (by omega), by simp, by simp⟩ ?_ ?_
  · rintro j ⟨c5, c6, l7⟩ _ hj ⟨h0, h1, h2, h3⟩
    simp only at h1 h2 h3 ⊢
    unfold gatemake_Stream_Words_L1
    refine ok_bind (some_ok h1 (by omega) l hl) fun r hr => ok_g (by omega) (ok_some ?_)
    refine ⟨by omega, hr.2.mono (by omega), by simp; omega, fun x hx => ?_⟩
    rcases List.mem_append.1 hx with h | h
    · exact h3 x h
    · have : x = r.1 := by simpa using h
      rw [this]; exact hB _ hr.1
  · rintro ⟨c5, c6, l7⟩ ⟨h0, h1, h2, h3⟩
    simp only at h1 h2 h3 ⊢
    have hj := join_le 20 sep l7 h3
    have hmm : l7.length * (20 + sep.length) ≤ 1000 * 30 := Nat.mul_le_mul (by omega) (by omega)
    unfold gatemake_Stream_Words_E1
    have hJ : m_strings_Join l7 sep = some (Lib.join l7 sep) := by
      unfold m_strings_Join
      rw [if_pos ⟨by omega, by omega⟩]
    rw [hJ]
    exact ok_some ⟨by simp only; omega, h1.mono (by omega)⟩
theorem first_occ (c : UInt8) : ∀ s : Bs, c ∉ s ∨ ∃ p q, s = p ++ c :: q ∧ c ∉ p
  | [] => .inl (by simp)
  | x :: s => by
    by_cases h : x = c
    · exact .inr ⟨[], s, by rw [h]; rfl, by simp⟩
    · rcases first_occ c s with h1 | ⟨p, q, rfl, h1⟩
      · exact .inl (by simp [h1, Ne.symm h])
      · exact .inr ⟨x :: p, q, rfl, by simp [h1, Ne.symm h]⟩
theorem idx_no (c : UInt8) : ∀ s : Bs, c ∉ s → Lib.index s [c] = -1
  | [], _ => rfl
  | x :: s, h => by
    rw [index_one, if_neg (fun e => h (by simp [e])), idx_no c s (fun e => h (by simp [e]))]
    try rfl
theorem idx_app (c : UInt8) (q : Bs) : ∀ p : Bs, c ∉ p → Lib.index (p ++ c :: q) [c] = (p.length : Int)
  | [], _ => by rw [List.nil_append, index_one, if_pos rfl]; rfl
  | x :: p, h => by
    rw [List.cons_append, index_one, if_neg (fun e => h (by simp [e])), idx_app c q p (fun e => h (by simp [e])), if_neg (by simp)]
    simp
theorem cut_no (c : UInt8) (s : Bs) (h : c ∉ s) : Lib.cut s [c] = (s, [], false) := by
  unfold Lib.cut
  rw [idx_no c s h]; rfl
theorem cut_app (c : UInt8) (p q : Bs) (h : c ∉ p) : Lib.cut (p ++ c :: q) [c] = (p, q, true) := by
  unfold Lib.cut
  rw [idx_app c q p h, if_pos (by omega)]
  simp
/-- trimming a byte -/
def trR (c : UInt8) (s : Bs) : Bs := (s.reverse.dropWhile (· == c)).reverse
def trL (c : UInt8) (s : Bs) : Bs := s.dropWhile (· == c)
theorem trR_nil (c : UInt8) : trR c [] = [] := rfl
theorem trR_snoc (c b : UInt8) (l : Bs) : trR c (l ++ [b]) = if b = c then trR c l else l ++ [b] := by
  unfold trR
  rw [List.reverse_append, List.reverse_singleton, List.singleton_append, List.dropWhile_cons]
  by_cases h : b = c
  · simp [h]
  · simp [h]
theorem trR_len (c : UInt8) (s : Bs) : (trR c s).length ≤ s.length := by
  unfold trR
  rw [List.length_reverse]
  have := (List.dropWhile_sublist (l := s.reverse) (· == c)).length_le
  simpa using this
theorem trimRight_eq (c : UInt8) (s : Bs) : s.length ≤ 1000000000 → m_strings_trimRightByte s (c.toNat : Int) = some (trR c s) := by
  refine snocRec (P := fun s => s.length ≤ 1000000000 → m_strings_trimRightByte s (c.toNat : Int) = some (trR c s)) (fun _ => ?_) (fun l b ih h => ?_) s
  · unfold m_strings_trimRightByte
    exact iter_out rfl
  · have hl : (l ++ [b]).length = l.length + 1 := by simp
    have e1 : wr (((l ++ [b]).length : Int) - 1) = (l.length : Int) := by rw [hl, wr_id (by omega)]; omega
    have e2 : at? (l ++ [b]) (l.length : Int) = some b := by
      unfold at?
      rw [if_pos (by omega), Int.toNat_natCast]; simp
    have e3 : sub? (l ++ [b]) 0 (l.length : Int) = some l := by
      rw [sub_take _ _ (by omega)]; simp
    rw [trR_snoc]
    by_cases hb : b = c
    · rw [if_pos hb]
      have := ih (by omega)
      unfold m_strings_trimRightByte at this ⊢
      refine (iter_in (s' := l) ?_).trans this
      unfold strings_trimRightByte_L2 strings_trimRightByte_J3
      rw [if_pos (by simp), e1, e2]
      simp only [Option.bind_some]
      rw [if_pos (by simp [hb]), e3]; rfl
    · rw [if_neg hb]
      unfold m_strings_trimRightByte
      refine iter_out ?_
      unfold strings_trimRightByte_L2 strings_trimRightByte_J3 strings_trimRightByte_J1
      rw [if_pos (by simp), e1, e2]
      simp only [Option.bind_some]
      have hn : ¬ (b.toNat : Int) = (c.toNat : Int) := fun h => hb (UInt8.toNat_inj.1 (by omega))
      rw [if_neg (by simpa using hn)]; rfl
theorem trimLeft_eq (c : UInt8) : ∀ s : Bs, s.length ≤ 1000000000 → m_strings_trimLeftByte s (c.toNat : Int) = some (trL c s)
  | [], _ => by
    unfold m_strings_trimLeftByte
    exact iter_out rfl
  | b :: l, h => by
    simp only [List.length_cons] at h
    have e3 : sub? (b :: l) 1 ((b :: l).length : Int) = some l := by
      unfold sub?
      rw [if_pos (by simp; omega)]
      simp
    unfold trL
    rw [List.dropWhile_cons]
    by_cases hb : b = c
    · rw [if_pos (by simp [hb])]
      have := trimLeft_eq c l (by omega)
      unfold m_strings_trimLeftByte at this ⊢
      refine (iter_in (s' := l) ?_).trans this
      unfold strings_trimLeftByte_L2 strings_trimLeftByte_J3
      rw [if_pos (by simp), List.getElem?_cons_zero]
      simp only [Option.bind_some]
      rw [if_pos (by simp [hb]), e3]; rfl
    · rw [if_neg (by simp [hb])]
      unfold m_strings_trimLeftByte
      refine iter_out ?_
      unfold strings_trimLeftByte_L2 strings_trimLeftByte_J3 strings_trimLeftByte_J1
      rw [if_pos (by simp), List.getElem?_cons_zero]
      simp only [Option.bind_some]
      have hn : ¬ (b.toNat : Int) = (c.toNat : Int) := fun h => hb (UInt8.toNat_inj.1 (by omega))
      rw [if_neg (by simpa using hn)]; rfl
theorem trim_eq (c : UInt8) (hc : c.toNat < 128) (s : Bs) (h : s.length ≤ 1000000000) : m_strings_Trim s [c] = some (trL c (trR c s)) := by
  unfold m_strings_Trim strings_Trim_J1
  by_cases h0 : s = []
  · subst h0; rfl
  · have := trR_len c s
    rw [if_neg (by simp [h0]), if_pos (by simp), List.getElem?_cons_zero]
    simp only [Option.bind_some]
    rw [if_pos (by simp; omega), trimRight_eq c s h]
    simp only [Option.bind_some]
    rw [trimLeft_eq c _ (by omega)]; rfl
theorem spoken_eq : m_gatelaw2_spoken = some true := by
  have h1 : m_message_PathFault [47, 97, 47, 46, 46, 47, 98] = some 0 := by decide +kernel
  have h2 : m_message_normalUnits [47, 97, 47, 46, 46, 47, 98] = some ([47, 97, 47, 46, 46, 47, 98], true) := by
    unfold m_message_normalUnits
    exact iter_some.2 ⟨9, by decide +kernel⟩
  have h3 : m_strings_Split [97, 47, 46, 46, 47, 98] [47] = some [[97], [46, 46], [98]] := by
    unfold m_strings_Split
    rw [if_pos (by decide), splitL_one]
    decide +kernel
  have h4 : sub? ([47, 97, 47, 46, 46, 47, 98] : Bs) 1 7 = some [97, 47, 46, 46, 47, 98] := by decide +kernel
  have h5 : forL (fun (k : Nat) (x : Bs) (s : (List Bs)) => message_NormalPath_L1 [[97], [46, 46], [98]] k x s) (fun (s : (List Bs)) => message_NormalPath_E1 s) 0 [[97], [46, 46], [98]] [] = some ([47, 98], 0) := by decide +kernel
  have h6 : m_message_NormalPath [47, 97, 47, 46, 46, 47, 98] = some ([47, 98], 0) := by
    unfold m_message_NormalPath
    rw [h1]
    simp only [Option.bind_some, ne_eq, not_true_eq_false, decide_false, Bool.false_eq_true, if_false, h2, Bool.not_true]
    show (sub? ([47, 97, 47, 46, 46, 47, 98] : Bs) 1 7).bind _ = _
    rw [h4]
    simp only [Option.bind_some]
    rw [h3]
    simp only [Option.bind_some]
    rw [if_pos (by decide)]
    exact h5
  unfold m_gatelaw2_spoken
  rw [h6]; rfl
end Go.Proofs.YtgjfcdcpiamikaaGreatDoor
