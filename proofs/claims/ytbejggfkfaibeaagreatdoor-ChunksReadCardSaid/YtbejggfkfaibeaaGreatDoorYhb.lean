/- Plain: the law ChunksRead is true for every list of numbers. -/
import Derived.Test.YtbejggfkfaibeaaGreatDoorMiYh
import Derived.Test.YtbejggfkfaibeaaGreatDoorHxYh
namespace Go.Proofs.YtbejggfkfaibeaaGreatDoor
set_option linter.unusedVariables false
set_option maxRecDepth 20000
def chB (z : Nat) (b : Bs) : Bs := if h : b = [] ∨ z = 0 then [] else ((hexF (min z b.length) ++ [13, 10]) ++ b.take (min z b.length)) ++ [13, 10] ++ chB z (b.drop (min z b.length))
termination_by b.length
decreasing_by
  have : b.length ≠ 0 := fun h2 => h (.inl (List.length_eq_zero_iff.1 h2))
  simp only [List.length_drop]; omega
theorem chB_step {z : Nat} {b : Bs} (hb : b ≠ []) (hz : z ≠ 0) : chB z b = ((hexF (min z b.length) ++ [13, 10]) ++ b.take (min z b.length)) ++ [13, 10] ++ chB z (b.drop (min z b.length)) := by
  rw [chB, dif_neg (by simp [hb, hz])]
theorem hx_len (n : Nat) (h : n ≤ 100000) : (hexF n).length ≤ 6 := hexF_len 5 n (Nat.lt_of_le_of_lt h (by decide))
theorem chunkP (z : Nat) (hz : 1 ≤ z) : ∀ (n : Nat) (b x : Bs), b.length ≤ n → b.length ≤ 100000 → x.length + 20 * b.length ≤ 900000000 →
    iter (fun (s : Bs × (List Int)) => message_Chunk_L2 (z : Int) s.1 s.2) (b, numsB x) = some (x ++ chB z b ++ [48, 13, 10, 13, 10], 0) := by
  intro n
  induction n with
  | zero =>
    intro b x h _ hx
    obtain rfl : b = [] := List.length_eq_zero_iff.1 (by omega)
    refine iter_out (body := fun (s : Bs × (List Int)) => message_Chunk_L2 (z : Int) s.1 s.2) (s := ([], numsB x)) ?_
    show message_Chunk_L2 (z : Int) [] (numsB x) = _
    unfold message_Chunk_L2 message_Chunk_J1 m_strings_Builder_WriteString
    rw [if_neg (by simp), if_pos (by rw [nums_len]; simp at hx ⊢; omega)]
    simp only [Option.bind_some]
    rw [← nums_app, if_pos (byR_nums _), strN_nums', chB, dif_pos (.inl rfl)]
    simp
  | succ n ih =>
    intro b x h hb hx
    by_cases h0 : b = []
    · subst h0; exact ih [] x (by simp) (by simp) hx
    have hl : 1 ≤ b.length := by cases b with | nil => exact absurd rfl h0 | cons _ _ => simp
    have hmin : min (z : Int) (b.length : Int) = ((min z b.length : Nat) : Int) := by omega
    have hh := hx_len (min z b.length) (by omega)
    have hs1 : sub? b 0 ((min z b.length : Nat) : Int) = some (b.take (min z b.length)) := sub_take b _ (by omega)
    have hs2 : sub? b ((min z b.length : Nat) : Int) (b.length : Int) = some (b.drop (min z b.length)) := by
      unfold sub?
      rw [if_pos (by omega), List.take_of_length_le (by simp)]; simp
    have hlt : (b.take (min z b.length)).length = min z b.length := by rw [List.length_take]; omega
    have hst : message_Chunk_L2 (z : Int) b (numsB x) = some (.inl (b.drop (min z b.length), numsB (x ++ (((hexF (min z b.length) ++ [13, 10]) ++ b.take (min z b.length)) ++ [13, 10])))) := by
      unfold message_Chunk_L2 m_strings_Builder_WriteString
      rw [if_pos (by simp; omega), hmin, format_eq _ (by omega)]
      simp only [Option.bind_some]
      rw [if_pos (by simp; omega), hs1]
      simp only [Option.bind_some]
      rw [if_pos (by simp only [List.length_append, hlt, List.length_cons, List.length_nil]; omega), if_pos (by simp only [List.length_append, hlt, List.length_cons, List.length_nil]; omega), if_pos (by rw [nums_len]; simp only [List.length_append, hlt, List.length_cons, List.length_nil]; omega)]
      simp only [Option.bind_some]
      rw [hs2]
      simp only [Option.bind_some, nums_app]
    rw [iter_in (body := fun (s : Bs × (List Int)) => message_Chunk_L2 (z : Int) s.1 s.2) (s := (b, numsB x)) hst, ih _ _ (by simp; omega) (by simp; omega) (by simp only [List.length_append, List.length_drop, hlt, List.length_cons, List.length_nil]; omega), chB_step h0 (by omega)]
    simp
theorem chunkR (z : Nat) (hz : 1 ≤ z) : ∀ (n : Nat) (b x : Bs), b.length ≤ n → b.length ≤ 100000 → x.length + 20 * b.length ≤ 900000000 →
    iter (fun (s : Bs × Bs) => gateref2_ChunksOf_L2 (z : Int) s.1 s.2) (b, x) = some (x ++ chB z b ++ [48, 13, 10, 13, 10]) := by
  intro n
  induction n with
  | zero =>
    intro b x h _ hx
    obtain rfl : b = [] := List.length_eq_zero_iff.1 (by omega)
    simp only [List.length_nil] at hx
    refine iter_out (body := fun (s : Bs × Bs) => gateref2_ChunksOf_L2 (z : Int) s.1 s.2) (s := ([], x)) ?_
    show gateref2_ChunksOf_L2 (z : Int) [] x = _
    unfold gateref2_ChunksOf_L2 gateref2_ChunksOf_J1
    rw [if_neg (by simp), if_pos (by simp; omega), if_pos (by simp; omega), if_pos (by simp; omega), chB, dif_pos (.inl rfl)]
    simp
  | succ n ih =>
    intro b x h hb hx
    by_cases h0 : b = []
    · subst h0; exact ih [] x (by simp) (by simp) hx
    have hl : 1 ≤ b.length := by cases b with | nil => exact absurd rfl h0 | cons _ _ => simp
    have hmin : min (z : Int) (b.length : Int) = ((min z b.length : Nat) : Int) := by omega
    have hh := hx_len (min z b.length) (by omega)
    have hs1 : sub? b 0 ((min z b.length : Nat) : Int) = some (b.take (min z b.length)) := sub_take b _ (by omega)
    have hs2 : sub? b ((min z b.length : Nat) : Int) (b.length : Int) = some (b.drop (min z b.length)) := by
      unfold sub?
      rw [if_pos (by omega), List.take_of_length_le (by simp)]; simp
    have hlt : (b.take (min z b.length)).length = min z b.length := by rw [List.length_take]; omega
    have hst : gateref2_ChunksOf_L2 (z : Int) b x = some (.inl (b.drop (min z b.length), x ++ (((hexF (min z b.length) ++ [13, 10]) ++ b.take (min z b.length)) ++ [13, 10]))) := by
      unfold gateref2_ChunksOf_L2
      rw [if_pos (by simpa using h0), hmin, format_eq _ (by omega)]
      simp only [Option.bind_some]
      rw [if_pos (by simp; omega), hs1]
      simp only [Option.bind_some]
      rw [if_pos (by simp only [List.length_append, hlt, List.length_cons, List.length_nil]; omega), if_pos (by simp only [List.length_append, hlt, List.length_cons, List.length_nil]; omega), if_pos (by simp only [List.length_append, hlt, List.length_cons, List.length_nil]; omega), hs2]
      simp only [Option.bind_some]
    rw [iter_in (body := fun (s : Bs × Bs) => gateref2_ChunksOf_L2 (z : Int) s.1 s.2) (s := (b, x)) hst, ih _ _ (by simp; omega) (by simp; omega) (by simp only [List.length_append, List.length_drop, hlt, List.length_cons, List.length_nil]; omega), chB_step h0 (by omega)]
    simp
theorem chunksOf_eq (b : Bs) (z : Nat) (hz : 1 ≤ z) (hb : b.length ≤ 100000) : m_gateref2_ChunksOf b (z : Int) = some (chB z b ++ [48, 13, 10, 13, 10]) := by
  unfold m_gateref2_ChunksOf
  have := chunkR z hz b.length b [] (Nat.le_refl _) hb (by simp; omega)
  simpa using this
theorem chB_len (z : Nat) : ∀ (n : Nat) (b : Bs), b.length ≤ n → b.length ≤ 100000 → (chB z b).length ≤ 20 * b.length := by
  intro n
  induction n with
  | zero => intro b h _; obtain rfl : b = [] := List.length_eq_zero_iff.1 (by omega); rw [chB, dif_pos (.inl rfl)]; simp
  | succ n ih =>
    intro b h hb
    by_cases h0 : b = [] ∨ z = 0
    · rw [chB, dif_pos h0]; simp
    have h1 : b ≠ [] ∧ z ≠ 0 := by simpa using h0
    have hl : 1 ≤ b.length := by cases b with | nil => exact absurd rfl h1.1 | cons _ _ => simp
    have hh := hx_len (min z b.length) (by omega)
    have := ih (b.drop (min z b.length)) (by simp; omega) (by simp; omega)
    rw [chB_step h1.1 h1.2]
    simp only [List.length_append, List.length_take, List.length_drop, List.length_cons, List.length_nil] at this ⊢
    omega
/-- a chunk's length -/
def goodX (s : Bs) : Bool := canX s && decide (s.length ≤ 8)
theorem dw_nil (p : UInt8 → Bool) : ∀ l : Bs, l.dropWhile p = [] ↔ l.all p = true
  | [] => by simp
  | c :: l => by
    rw [List.dropWhile_cons, List.all_cons]
    cases h : p c
    · simp
    · simpa using dw_nil p l
theorem dw_head (p : UInt8 → Bool) : ∀ (l t : Bs) (c : UInt8), l.dropWhile p = c :: t → p c = false
  | [], _, _, h => by cases h
  | d :: l, t, c, h => by
    rw [List.dropWhile_cons] at h
    cases hd : p d
    · rw [hd] at h
      have : d = c := by simpa using (List.cons.inj h).1
      rw [← this]; exact hd
    · rw [hd] at h
      exact dw_head p l t c (by simpa using h)
theorem trimS_nil (s : Bs) : (Lib.trimS s xdL = []) ↔ s.all isX = true := by
  unfold Lib.trimS Lib.trimLeftS Lib.trimRightS
  show (List.dropWhile isX (List.dropWhile isX s.reverse).reverse = []) ↔ _
  rw [dw_nil, List.all_reverse]
  constructor
  · intro h
    cases hd : List.dropWhile isX s.reverse with
    | nil =>
      have := (dw_nil isX s.reverse).1 hd
      rwa [List.all_reverse] at this
    | cons c t =>
      have h1 := dw_head isX _ _ _ hd
      rw [hd] at h
      simp [h1] at h
  · intro h
    rw [(dw_nil isX s.reverse).2 (by rw [List.all_reverse]; exact h)]; rfl
theorem can_ne {s : Bs} (h : canX s = true) : s ≠ [] := by
  intro h0; subst h0; simp [canX] at h
theorem can_all {s : Bs} (h : canX s = true) : s.all isX = true := by
  unfold canX at h
  simp only [Bool.and_eq_true] at h
  exact h.1
theorem chunkLen_eq (s : Bs) (h : s.length ≤ 1000000) : m_message_chunkLength s = some (if goodX s then ((hvB s : Int), true) else (0, false)) := by
  have hJ : message_chunkLength_J1 s true = some (0, false) := rfl
  unfold m_message_chunkLength
  by_cases h0 : s = []
  · rw [if_pos (by simpa using h0), hJ]; subst h0; rfl
  rw [if_neg (by simpa using h0)]
  by_cases h8 : 8 < s.length
  · rw [if_pos (by simp; omega), hJ, if_neg (by unfold goodX; simp; omega)]
  rw [if_neg (by simp; omega)]
  unfold m_strings_TrimSet
  rw [if_pos ⟨⟨by omega, by decide⟩, by decide⟩]
  simp only [Option.bind_some]
  have ht := trimS_nil s
  cases hx : s.all isX
  · rw [if_pos (by
      have : ¬ Lib.trimS s xdL = [] := fun h => by rw [ht.1 h] at hx; cases hx
      simpa using this), hJ, if_neg (by unfold goodX canX; rw [hx]; simp)]
  · rw [if_neg (by have := ht.2 hx; simpa using this)]
    cases s with
    | nil => exact absurd rfl h0
    | cons c t =>
      have hp := parse_eq (c :: t) h0 hx (by omega)
      have hgood : message_chunkLength_J1 (c :: t) false = some ((hvB (c :: t) : Int), true) := by
        unfold message_chunkLength_J1
        rw [if_neg (by simp), hp]; rfl
      simp only [List.getElem?_cons_zero, Option.bind_some]
      have hl8 : decide ((c :: t).length ≤ 8) = true := by simp only [decide_eq_true_eq]; omega
      have hg : goodX (c :: t) = (decide (c :: t = [48]) || decide ((c :: t).head? ≠ some 48 ∧ c :: t ≠ [])) := by
        unfold goodX canX
        rw [hx, hl8]; simp
      by_cases hc : c = 48
      · subst hc
        rw [if_pos (by decide)]
        cases t with
        | nil => rw [show decide (([48] : Bs) ≠ [48]) = false from by decide, hgood]; rfl
        | cons d t =>
          rw [show decide ((48 :: d :: t : Bs) ≠ [48]) = true from by simp, hJ, hg]
          simp
      · have hcn : ¬ ((c.toNat : Int) = 48) := fun h => hc (UInt8.toNat_inj.1 (by simp; omega))
        rw [if_neg (by simpa using hcn), hgood, hg]
        simp [hc]
/-- the reference's line -/
theorem bodyL (v x q : Bs) (hq : q.length ≤ 1000000) (hm : (Lib.cut q [13, 10]).1.head? = some 45 → (Lib.cut q [13, 10]).1.length ≤ 10) (hl : (Lib.cut q [13, 10]).1.length ≤ 1000000) :
    gateref2_BodyOf_L1 v x q = if (Lib.cut q [13, 10]).2.2 && goodX (Lib.cut q [13, 10]).1 then gateref2_BodyOf_J2 v x (Lib.cut q [13, 10]) ((hvB (Lib.cut q [13, 10]).1 : Int), 0) false else some (.inr ([], 0, 9)) := by
  have hJ : ∀ r, gateref2_BodyOf_J2 v x (Lib.cut q [13, 10]) r true = some (.inr ([], 0, 9)) := fun r => rfl
  unfold gateref2_BodyOf_L1 m_strings_Cut
  rw [if_pos (by omega)]
  simp only [Option.bind_some]
  generalize hr : Lib.cut q [13, 10] = r at *
  obtain ⟨w, e, hp⟩ := parse_any r.1 hl hm
  rw [hp]
  simp only [Option.bind_some]
  cases r.2.2
  · simp only [Bool.not_false, if_true, Bool.false_and, Bool.false_eq_true, if_false]; exact hJ _
  simp only [Bool.not_true, Bool.false_eq_true, if_false, Bool.true_and]
  cases hg : goodX r.1
  · simp only [Bool.false_eq_true, if_false]
    by_cases he : e = 0
    · rw [if_neg (by simpa using he), in_eq]
      simp only [Option.bind_some, Bool.not_not]
      cases ho : outP (r.1.length : Int) 1 8
      · simp only [Bool.false_eq_true, if_false]
        rw [only_eq _ _ (by omega)]
        simp only [Option.bind_some]
        cases hx : r.1.all fun c => xdL.contains c
        · simp only [Bool.not_false, if_true]; exact hJ _
        · simp only [Bool.not_true, Bool.false_eq_true, if_false]
          have ho' : 1 ≤ r.1.length ∧ r.1.length ≤ 8 := by
            rw [outP_in] at ho
            simp at ho; omega
          have hne : r.1 ≠ [] := fun h => by rw [h] at ho'; simp at ho'
          have hpe := parse_eq r.1 hne hx ho'.2
          rw [hpe] at hp
          cases hp
          have hb := hvB_lt 8 r.1 hx ho'.2
          rw [format_eq _ (by omega)]
          simp only [Option.bind_some]
          have hnc : decide (r.1 ≠ hexF (hvB r.1)) = true := by
            simp only [decide_eq_true_eq]
            intro h
            have hcan : canX r.1 = true := by
              unfold canX
              rw [show r.1.all isX = true from hx]
              rcases hexF_can _ _ h with h1 | h1
              · simp [h1]
              · simp [h1, hne]
            unfold goodX at hg
            rw [hcan] at hg
            simp at hg
            omega
          rw [hnc]
          exact hJ _
      · simp only [if_true]; exact hJ _
    · rw [if_pos (by simpa using he)]; exact hJ _
  · unfold goodX at hg
    simp only [Bool.and_eq_true, decide_eq_true_eq] at hg
    have hx := can_all hg.1
    have hne := can_ne hg.1
    have hpe := parse_eq r.1 hne hx hg.2
    rw [hpe] at hp
    cases hp
    have hb := hvB_lt 8 r.1 hx hg.2
    have hln : 1 ≤ r.1.length := by cases hh : r.1 with | nil => exact absurd hh hne | cons _ _ => simp
    rw [if_neg (by simp), in_eq, only_eq _ _ (by omega)]
    simp only [Option.bind_some, Bool.not_not, if_true]
    rw [show outP (r.1.length : Int) 1 8 = false from by rw [outP_in]; simp; omega]
    simp only [Bool.false_eq_true, if_false]
    rw [show (r.1.all fun c => xdL.contains c) = true from hx, format_eq _ (by omega), (hexF_hv r.1 hg.1).1]
    simp
theorem cut_at (q : Bs) (h : (Lib.cut q [13, 10]).2.2 = true) : (Lib.cut q [13, 10]).1.length + 2 ≤ q.length ∧ (Lib.cut q [13, 10]).2.1 = q.drop ((Lib.cut q [13, 10]).1.length + 2) := by
  unfold Lib.cut at h ⊢
  split at h
  · rename_i h0
    rw [if_pos h0]
    have := Lib.index_room q [13, 10] h0
    simp only [List.length_cons, List.length_nil] at this
    have e : (q.take (Lib.index q [13, 10]).toNat).length = (Lib.index q [13, 10]).toNat := by rw [List.length_take]; omega
    simp only
    rw [e]
    exact ⟨by omega, rfl⟩
  · cases h
theorem cut_mem (q : Bs) (c : UInt8) (h : c ∈ (Lib.cut q [13, 10]).1) : c ∈ q := by
  unfold Lib.cut at h
  split at h
  · exact List.mem_of_mem_take h
  · exact h
theorem cut_len2 (q : Bs) : (Lib.cut q [13, 10]).1.length ≤ q.length := by
  unfold Lib.cut
  split
  · rw [List.length_take]; omega
  · exact Nat.le_refl _
theorem unchunk_same (s : Bs) (hs : s.length ≤ 1000000) (hm : 45 ∉ s ∨ s.length ≤ 10) : ∀ (n : Nat) (q : Bs) (i : Nat) (x : Bs), q.length ≤ n → s.drop i = q → i + q.length = s.length → x.length ≤ 20000 →
    ∃ r, iter (fun (p : Int × (List Int)) => message_Unchunk_L1 s p.1 p.2) ((i : Int), numsB x) = some r ∧ iter (fun (p : Bs × Bs) => gateref2_BodyOf_L1 s p.1 p.2) (x, q) = some r := by
  intro n
  induction n using Nat.strongRecOn with
  | _ n ih =>
    intro q i x hn hq hi hx
    have hsub : sub? s (i : Int) (s.length : Int) = some q := by
      unfold sub?
      rw [if_pos (by omega)]
      simp only [Int.toNat_natCast]
      rw [hq, List.take_of_length_le (by omega)]
    have hcl := cut_len2 q
    have hmem : (Lib.cut q [13, 10]).1.head? = some 45 → (Lib.cut q [13, 10]).1.length ≤ 10 := by
      intro h
      rcases hm with h1 | h1
      · exfalso
        have h2 : (45 : UInt8) ∈ (Lib.cut q [13, 10]).1 := List.mem_of_mem_head? (by rw [h]; rfl)
        have h3 := cut_mem q 45 h2
        rw [← hq] at h3
        exact h1 (List.mem_of_mem_drop h3)
      · omega
    have hR := bodyL s x q (by omega) hmem (by omega)
    have hC := chunkLen_eq (Lib.cut q [13, 10]).1 (by omega)
    have hcut := cut_at q
    have hP : message_Unchunk_L1 s (i : Int) (numsB x) = if (!(Lib.cut q [13, 10]).2.2) || (!goodX (Lib.cut q [13, 10]).1) then some (.inr ([], 0, 9)) else
        (if decide (20000 < (wr ((x.length : Int) + (hvB (Lib.cut q [13, 10]).1 : Int)))) then (some (.inr ([], 0, 2))) else (if decide (((Lib.cut q [13, 10]).2.1.length : Int) < (wr ((hvB (Lib.cut q [13, 10]).1 : Int) + 2))) then (message_Unchunk_J2 (i : Int) (Lib.cut q [13, 10]) ((hvB (Lib.cut q [13, 10]).1 : Int), true) ((x.length : Int), numsB x) true) else ((sub? (Lib.cut q [13, 10]).2.1 (hvB (Lib.cut q [13, 10]).1 : Int) (wr ((hvB (Lib.cut q [13, 10]).1 : Int) + 2))).bind fun (l17 : Bs) => message_Unchunk_J2 (i : Int) (Lib.cut q [13, 10]) ((hvB (Lib.cut q [13, 10]).1 : Int), true) ((x.length : Int), numsB x) (decide (l17 ≠ [13, 10]))))) := by
      unfold message_Unchunk_L1 m_strings_Cut m_strings_Builder_Len
      rw [hsub]
      simp only [Option.bind_some]
      rw [if_pos (by omega)]
      simp only [Option.bind_some]
      rw [hC]
      simp only [Option.bind_some, nums_len]
      cases goodX (Lib.cut q [13, 10]).1
      · simp
      · simp only [if_true]
    generalize hr : Lib.cut q [13, 10] = r at *
    cases h2 : r.2.2
    · rw [h2] at hP hR
      simp only [Bool.not_false, Bool.true_or, if_true] at hP
      simp only [Bool.false_and, Bool.false_eq_true, if_false] at hR
      exact ⟨_, iter_out (body := fun (p : Int × (List Int)) => message_Unchunk_L1 s p.1 p.2) (s := ((i : Int), numsB x)) hP, iter_out (body := fun (p : Bs × Bs) => gateref2_BodyOf_L1 s p.1 p.2) (s := (x, q)) hR⟩
    cases hg : goodX r.1
    · rw [h2, hg] at hP hR
      simp only [Bool.not_false, Bool.or_true, if_true] at hP
      simp only [Bool.and_false, Bool.false_eq_true, if_false] at hR
      exact ⟨_, iter_out (body := fun (p : Int × (List Int)) => message_Unchunk_L1 s p.1 p.2) (s := ((i : Int), numsB x)) hP, iter_out (body := fun (p : Bs × Bs) => gateref2_BodyOf_L1 s p.1 p.2) (s := (x, q)) hR⟩
    obtain ⟨hc1, hc2⟩ := hcut h2
    have hal : r.2.1.length + r.1.length + 2 = q.length := by rw [hc2, List.length_drop]; omega
    have hb : hvB r.1 < 16 ^ 8 := by
      unfold goodX at hg
      simp only [Bool.and_eq_true, decide_eq_true_eq] at hg
      exact hvB_lt 8 r.1 (can_all hg.1) hg.2
    have h168 : (16 : Nat) ^ 8 = 4294967296 := by decide
    rw [h2, hg] at hP hR
    simp only [Bool.not_true, Bool.or_self, Bool.false_eq_true, if_false] at hP
    simp only [Bool.and_self, if_true] at hR
    generalize hN : hvB r.1 = N at *
    have w1 : wr ((x.length : Int) + (N : Int)) = ((x.length + N : Nat) : Int) := by rw [wr_id (by omega)]; omega
    have w2 : wr ((N : Int) + 2) = ((N + 2 : Nat) : Int) := by rw [wr_id (by omega)]; omega
    unfold gateref2_BodyOf_J2 at hR
    rw [w1, w2] at hP
    simp only [w1, w2, Bool.false_eq_true, if_false] at hR
    by_cases hL : 20000 < x.length + N
    · rw [if_pos (by simp; omega)] at hP
      rw [if_pos (by simp; omega)] at hR
      exact ⟨_, iter_out (body := fun (p : Int × (List Int)) => message_Unchunk_L1 s p.1 p.2) (s := ((i : Int), numsB x)) hP, iter_out (body := fun (p : Bs × Bs) => gateref2_BodyOf_L1 s p.1 p.2) (s := (x, q)) hR⟩
    rw [if_neg (by simp; omega)] at hP
    rw [if_neg (by simp; omega)] at hR
    by_cases hA : r.2.1.length < N + 2
    · rw [if_pos (by simp; omega)] at hP
      rw [if_pos (by simp; omega)] at hR
      exact ⟨_, iter_out (body := fun (p : Int × (List Int)) => message_Unchunk_L1 s p.1 p.2) (s := ((i : Int), numsB x)) hP, iter_out (body := fun (p : Bs × Bs) => gateref2_BodyOf_L1 s p.1 p.2) (s := (x, q)) hR⟩
    rw [if_neg (by simp; omega)] at hP
    rw [if_neg (by simp; omega)] at hR
    have hs3 : sub? r.2.1 (N : Int) ((N + 2 : Nat) : Int) = some ((r.2.1.drop N).take 2) := by
      unfold sub?
      rw [if_pos (by omega)]
      simp only [Int.toNat_natCast]
      rw [show N + 2 - N = 2 by omega]
    rw [hs3] at hP hR
    simp only [Option.bind_some] at hP hR
    cases hE : decide ((r.2.1.drop N).take 2 ≠ [13, 10])
    · rw [hE] at hP hR
      unfold message_Unchunk_J2 at hP
      unfold gateref2_BodyOf_J3 at hR
      have hs4 : sub? r.2.1 0 (N : Int) = some (r.2.1.take N) := sub_take _ _ (by omega)
      have hs5 : sub? r.2.1 ((N + 2 : Nat) : Int) (r.2.1.length : Int) = some (r.2.1.drop (N + 2)) := by
        unfold sub?
        rw [if_pos (by omega)]
        simp only [Int.toNat_natCast]
        rw [List.take_of_length_le (by simp)]
      have w3 : wr ((i : Int) + wr (wr (wr ((r.1.length : Int) + 2) + (N : Int)) + 2)) = ((i + (r.1.length + 2 + N + 2) : Nat) : Int) := by
        rw [wr_id (n := (r.1.length : Int) + 2) (by omega), wr_id (n := (r.1.length : Int) + 2 + (N : Int)) (by omega), wr_id (n := (r.1.length : Int) + 2 + (N : Int) + 2) (by omega), wr_id (by omega)]
        omega
      have w4 : wr ((s.length : Int) - ((r.2.1.drop (N + 2)).length : Int)) = ((i + (r.1.length + 2 + N + 2) : Nat) : Int) := by
        rw [List.length_drop, wr_id (by omega)]
        omega
      have hlt : (r.2.1.take N).length = N := by rw [List.length_take]; omega
      simp only [Bool.false_eq_true, if_false, w3, byR_nums, if_true, strN_nums', hs4, Option.bind_some] at hP
      simp only [Bool.false_eq_true, if_false, hs4, Option.bind_some, w2, hs5, w4] at hR
      rw [if_pos (by omega)] at hR
      by_cases h0 : N = 0
      · subst h0
        rw [if_pos (by simp)] at hP
        rw [if_pos (by simp)] at hR
        refine ⟨_, iter_out (body := fun (p : Int × (List Int)) => message_Unchunk_L1 s p.1 p.2) (s := ((i : Int), numsB x)) hP, ?_⟩
        have := iter_out (body := fun (p : Bs × Bs) => gateref2_BodyOf_L1 s p.1 p.2) (s := (x, q)) hR
        simpa using this
      · rw [if_neg (by simp; omega)] at hP
        rw [if_neg (by simp; omega)] at hR
        unfold m_strings_Builder_WriteString at hP
        rw [if_pos (by rw [nums_len]; omega)] at hP
        simp only [Option.bind_some, ← nums_app] at hP
        have hdr : s.drop (i + (r.1.length + 2 + N + 2)) = r.2.1.drop (N + 2) := by
          rw [hc2, ← hq, List.drop_drop, List.drop_drop]
          congr 1 <;> omega
        obtain ⟨z, hz1, hz2⟩ := ih (r.2.1.drop (N + 2)).length (by rw [List.length_drop]; omega) (r.2.1.drop (N + 2)) (i + (r.1.length + 2 + N + 2)) (x ++ r.2.1.take N) (Nat.le_refl _) hdr (by rw [List.length_drop]; omega) (by rw [List.length_append, hlt]; omega)
        refine ⟨z, ?_, ?_⟩
        · rw [iter_in (body := fun (p : Int × (List Int)) => message_Unchunk_L1 s p.1 p.2) (s := ((i : Int), numsB x)) hP]; exact hz1
        · rw [iter_in (body := fun (p : Bs × Bs) => gateref2_BodyOf_L1 s p.1 p.2) (s := (x, q)) hR]; exact hz2
    · rw [hE] at hP hR
      exact ⟨_, iter_out (body := fun (p : Int × (List Int)) => message_Unchunk_L1 s p.1 p.2) (s := ((i : Int), numsB x)) hP, iter_out (body := fun (p : Bs × Bs) => gateref2_BodyOf_L1 s p.1 p.2) (s := (x, q)) hR⟩
theorem unchunk_eq (s : Bs) (hs : s.length ≤ 1000000) (hm : 45 ∉ s ∨ s.length ≤ 10) : ∃ r, m_message_Unchunk s = some r ∧ m_gateref2_BodyOf s = some r := by
  have := unchunk_same s hs hm s.length s 0 [] (Nat.le_refl _) (by simp) (by simp) (by simp)
  unfold m_message_Unchunk m_gateref2_BodyOf
  simpa [numsB] using this
theorem hexF_all : ∀ u : Nat, (hexF u).all isX = true := by
  intro u
  induction u using Nat.strongRecOn with
  | _ u ih =>
    rw [hexF]
    split
    · rename_i h
      simp [(xv_at u h).2.1]
    · rename_i h
      rw [List.all_append, ih (u / 16) (by omega)]
      simp [(xv_at (u % 16) (Nat.mod_lt _ (by decide))).2.1]
theorem chB_mem (z : Nat) (c : UInt8) : ∀ (n : Nat) (b : Bs), b.length ≤ n → c ∈ chB z b → c ∈ b ∨ isX c = true ∨ c = 13 ∨ c = 10 := by
  intro n
  induction n with
  | zero =>
    intro b h hc
    obtain rfl : b = [] := List.length_eq_zero_iff.1 (by omega)
    rw [chB, dif_pos (.inl rfl)] at hc
    cases hc
  | succ n ih =>
    intro b h hc
    by_cases h0 : b = [] ∨ z = 0
    · rw [chB, dif_pos h0] at hc; cases hc
    have h1 : b ≠ [] ∧ z ≠ 0 := by simpa using h0
    have hl : 1 ≤ b.length := by cases b with | nil => exact absurd rfl h1.1 | cons _ _ => simp
    rw [chB_step h1.1 h1.2] at hc
    simp only [List.mem_append, List.mem_cons, List.not_mem_nil, or_false] at hc
    rcases hc with (((hc | hc) | hc) | hc) | hc
    · exact .inr (.inl (List.all_eq_true.1 (hexF_all _) c hc))
    · exact .inr (.inr hc)
    · exact .inl (List.mem_of_mem_take hc)
    · exact .inr (.inr hc)
    · rcases ih (b.drop (min z b.length)) (by simp; omega) hc with h2 | h2
      · exact .inl (List.mem_of_mem_drop h2)
      · exact .inr h2
theorem chunks45 (z : Nat) (b : Bs) (hb : (45 : UInt8) ∉ b) : (45 : UInt8) ∉ chB z b ++ [48, 13, 10, 13, 10] := by
  intro h
  rcases List.mem_append.1 h with h | h
  · rcases chB_mem z 45 b.length b (Nat.le_refl _) h with h | h | h | h
    · exact hb h
    · revert h; decide
    · revert h; decide
    · revert h; decide
  · revert h; decide
theorem sub_ok2 (l : Bs) (a b : Int) (h : 0 ≤ a ∧ a ≤ b ∧ b ≤ (l.length : Int)) : Ok (sub? l a b) fun r => (r.length : Int) = b - a ∧ ∀ c, c ∈ r → c ∈ l := by
  unfold sub?
  rw [if_pos h]
  exact ok_some ⟨by simp; omega, fun c hc => List.mem_of_mem_drop (List.mem_of_mem_take hc)⟩
theorem changed45 {k : Int} {s : S_gatemake_Stream} (h : SB k s) (hk : k ≤ 1000000) (t : Bs) (ht : t.length ≤ 100000) :
    Ok (m_gatemake_Stream_Changed s t [13, 10, 48, 49, 50, 97]) fun r => r.1.length ≤ t.length + 10 ∧ (t ≠ [] → r.1.length ≤ t.length + 4) ∧ ((45 : UInt8) ∉ t → (45 : UInt8) ∉ r.1) ∧ SB (k + 3) r.2 := by
  unfold m_gatemake_Stream_Changed
  refine ok_if (fun h0 => ok_some ⟨by simp, fun h1 => absurd h0 (by simp [h1]), fun _ => by show (45 : UInt8) ∉ ([13, 10, 48, 49, 50, 97] : Bs); decide, h.mono (by omega)⟩) (fun h0 => ?_)
  simp only [Bool.or_eq_true, decide_eq_true_eq, not_or] at h0
  have ht0 : 0 < t.length := by cases hq : t with | nil => exact absurd hq h0.1 | cons _ _ => simp
  refine ok_bind (next_ok h (by omega) _ (by omega)) fun r5 h5 => ok_bind (next_ok h5.2 (by omega) _ (by simp)) fun r7 h7 => ?_
  have b5 := h5.1.2.1 (by omega)
  have b7 := h7.1.2.1 (by simp)
  have c5 := h5.1.1
  have c7 := h7.1.1
  have hat : Ok (at? ([13, 10, 48, 49, 50, 97] : Bs) r7.1) fun x => x ∈ ([13, 10, 48, 49, 50, 97] : Bs) := by
    unfold at?
    simp only [List.length_cons, List.length_nil] at b7
    rw [if_pos c7, List.getElem?_eq_getElem (by simp; omega)]
    exact ⟨_, rfl, List.getElem_mem _⟩
  refine ok_bind hat fun x9 hx9 => ok_bind (next_ok h7.2 (by omega) 3 (by omega)) fun r11 h11 => ?_
  have he := enc_len x9
  have he45 : (45 : UInt8) ∉ encL (IntKind.wrap .i32 (x9.toNat : Int)) := by
    have := u8_all (fun c => !([13, 10, 48, 49, 50, 97] : Bs).contains c || decide ((45 : UInt8) ∉ encL (IntKind.wrap .i32 (c.toNat : Int)))) (by decide +kernel) x9
    have h2 : ([13, 10, 48, 49, 50, 97] : Bs).contains x9 = true := List.contains_iff_mem.2 hx9
    rw [h2] at this
    exact of_decide_eq_true (by simpa only [Bool.not_true, Bool.false_or] using this)
  have hw : wr (r5.1 + 1) = r5.1 + 1 := wr_id (by omega)
  have hS : SB (k + 3) r11.2 := h11.2.mono (by omega)
  rw [hw]
  refine ok_if (fun _ => ?_) (fun _ => ok_if (fun _ => ?_) (fun _ => ?_))
  · refine ok_bind (sub_ok2 t _ _ ⟨by omega, by omega, by omega⟩) fun l14 h14 => ok_g (by omega) (ok_bind (sub_ok2 t _ _ ⟨by omega, by omega, by omega⟩) fun l17 h17 => ok_g (by simp; omega) (ok_some ⟨by simp; omega, fun _ => by simp; omega, fun hn hc => ?_, hS⟩))
    simp only [List.mem_append] at hc
    rcases hc with (hc | hc) | hc
    · exact hn (h14.2 _ hc)
    · exact he45 hc
    · exact hn (h17.2 _ hc)
  · refine ok_bind (sub_ok2 t _ _ ⟨by omega, by omega, by omega⟩) fun l14 h14 => ok_g (by omega) (ok_bind (sub_ok2 t _ _ ⟨by omega, by omega, by omega⟩) fun l17 h17 => ok_g (by simp; omega) (ok_some ⟨by simp; omega, fun _ => by simp; omega, fun hn hc => ?_, hS⟩))
    simp only [List.mem_append] at hc
    rcases hc with (hc | hc) | hc
    · exact hn (h14.2 _ hc)
    · exact he45 hc
    · exact hn (h17.2 _ hc)
  · refine ok_bind (sub_ok2 t _ _ ⟨by omega, by omega, by omega⟩) fun l14 h14 => ok_bind (sub_ok2 t _ _ ⟨by omega, by omega, by omega⟩) fun l17 h17 => ok_g (by omega) (ok_some ⟨by simp; omega, fun _ => by simp; omega, fun hn hc => ?_, hS⟩)
    simp only [List.mem_append] at hc
    rcases hc with hc | hc
    · exact hn (h14.2 _ hc)
    · exact hn (h17.2 _ hc)
def qT (j : Nat) (t : Bs) : Prop := t.length ≤ 5000 + 10 * j ∧ ((45 : UInt8) ∉ t ∨ t.length ≤ 4 + 4 * j)
theorem chunkText_ok {k : Int} {s : S_gatemake_Stream} (h : SB k s) (hk : k ≤ 1000) : Ok (m_gatemake_Stream_ChunkText s) fun r => r.1.length ≤ 6000 ∧ ((45 : UInt8) ∉ r.1 ∨ r.1.length ≤ 10) := by
  have hJ : ∀ (t : Bs) (c : List Int) (a : Int), qT 0 t → SB 2000 (S_gatemake_Stream.mk c a) → Ok (gatemake_Stream_ChunkText_J1 t c a) fun r => r.1.length ≤ 6000 ∧ ((45 : UInt8) ∉ r.1 ∨ r.1.length ≤ 10) := by
    intro t c a ht hs
    unfold gatemake_Stream_ChunkText_J1
    refine ok_bind (pick_ok hs (by omega) [0, 0, 1] ⟨by simp, by simp⟩) fun r hr => ?_
    have hm : 0 ≤ r.1 ∧ r.1 ≤ 1 := by
      have := hr.1
      simp only [List.mem_cons, List.not_mem_nil, or_false] at this
      omega
    refine ok_g (by omega) (ok_rng (fun j (q : Bs × (List Int) × Int) => qT j q.1 ∧ SB (2001 + 3 * (j : Int)) (S_gatemake_Stream.mk q.2.1 q.2.2)) _ _ _ ⟨ht, hr.2.mono (by omega)⟩ ?_ ?_)
    · rintro j ⟨t, c, a⟩ _ hj ⟨h1, h2⟩
      simp only at h1 h2 ⊢
      unfold gatemake_Stream_ChunkText_L2
      refine ok_bind (changed45 h2 (by omega) t (by have := h1.1; omega)) fun r2 g => ok_some ⟨⟨by show r2.1.length ≤ _; have := h1.1; have := g.1; omega, ?_⟩, g.2.2.2.mono (by omega)⟩
      rcases h1.2 with h3 | h3
      · exact .inl (g.2.2.1 h3)
      · by_cases h4 : t = []
        · exact .inl (g.2.2.1 (by rw [h4]; simp))
        · have := g.2.1 h4
          exact .inr (by show r2.1.length ≤ _; omega)
    · rintro ⟨t, c, a⟩ ⟨h1, h2⟩
      simp only at h1 h2 ⊢
      have hj : 0 + r.1.toNat ≤ 1 := by omega
      unfold gatemake_Stream_ChunkText_E2
      refine ok_bind (some_ok h2 (by omega) [[], [120]] ⟨by simp, by simp⟩) fun r2 g => ?_
      have hr2 : r2.1 = [] ∨ r2.1 = [120] := by simpa using g.1
      have hl2 : r2.1.length ≤ 1 := by rcases hr2 with e | e <;> rw [e] <;> simp
      have h45 : (45 : UInt8) ∉ r2.1 := by rcases hr2 with e | e <;> rw [e] <;> decide
      obtain ⟨h5, h6⟩ := h1
      refine ok_g (by omega) (ok_some ⟨by simp; omega, ?_⟩)
      rcases h6 with h6 | h6
      · exact .inl fun hc => by
          rcases List.mem_append.1 hc with hc | hc
          · exact h6 hc
          · exact h45 hc
      · exact .inr (by simp; omega)
  unfold m_gatemake_Stream_ChunkText
  refine ok_bind (rep_some _ _ ⟨by omega, by omega, by simp⟩) fun r2 h2 => ?_
  have hr2 : r2.length = 40 ∧ (45 : UInt8) ∉ r2 := by rw [h2]; decide +kernel
  refine ok_bind (some_ok h (by omega) [[], [104, 101, 108, 108, 111], r2] ⟨by simp, by simp⟩) fun r4 h4 => ok_bind (pick_ok h4.2 (by omega) [1, 2, 3, 16, 100] ⟨by simp, by simp⟩) fun r6 h6 => ?_
  have hb : r4.1.length ≤ 40 ∧ (45 : UInt8) ∉ r4.1 := by
    have := h4.1
    simp only [List.mem_cons, List.not_mem_nil, or_false] at this
    rcases this with e | e | e <;> rw [e]
    · decide
    · decide
    · exact ⟨by omega, hr2.2⟩
  have hz : 1 ≤ r6.1 ∧ r6.1 ≤ 100 := by
    have := h6.1
    simp only [List.mem_cons, List.not_mem_nil, or_false] at this
    omega
  obtain ⟨z, hzz⟩ : ∃ z : Nat, r6.1 = (z : Int) := ⟨r6.1.toNat, by omega⟩
  rw [hzz, chunksOf_eq r4.1 z (by omega) (by omega)]
  simp only [Option.bind_some]
  have hcl := chB_len z r4.1.length r4.1 (Nat.le_refl _) (by omega)
  refine ok_bind (flip_ok h6.2 (by omega) 6 (by omega)) fun r10 h10 => ok_if (fun _ => ?_) (fun _ => ?_)
  · refine ok_bind (some_ok h10 (by omega) _ ⟨by simp, by simp⟩) fun r13 h13 => hJ _ _ _ ?_ (h13.2.mono (by omega))
    have := h13.1
    simp only [List.mem_cons, List.not_mem_nil, or_false] at this
    unfold qT
    rcases this with e | e | e | e | e | e | e | e | e <;> rw [e] <;> decide
  · exact hJ _ _ _ ⟨by simp; omega, .inl (chunks45 z r4.1 hb.2)⟩ (h10.mono (by omega))
theorem errs2 (a b : Int) : m_gatelaw2_errs [a, b] = some (if a ≠ 0 then a else b) := by
  unfold m_gatelaw2_errs
  rw [if_pos (by simp)]
  show (gatelaw2_errs_L1 0 a).bind _ = _
  unfold gatelaw2_errs_L1
  by_cases ha : a = 0
  · subst ha
    rw [if_neg (by simp), if_neg (by simp)]
    simp only [Option.bind_some, after]
    show (gatelaw2_errs_L1 1 b).bind _ = _
    unfold gatelaw2_errs_L1
    by_cases hb : b = 0
    · subst hb
      rw [if_neg (by simp)]; rfl
    · rw [if_pos (by simpa using hb)]; rfl
  · rw [if_pos (by simpa using ha), if_pos ha]; rfl
theorem strN_len' (l : List Int) : (strN l).length = l.length := by simp [strN]
theorem chunksRead_plain (L : List Int) : m_gatelaw2_ChunksRead L = some true := by
  refine ok_eq ?_
  unfold m_gatelaw2_ChunksRead
  have h0 : SB 0 (S_gatemake_Stream.mk L 0) := ⟨by simp, by simp⟩
  refine ok_g (by omega) (ok_g (by omega) (ok_g (by omega) (ok_bind (someB_ok h0 (by omega) 20001 _ ⟨List.cons_ne_nil _ _, by show 5 ≤ 1000; omega⟩ (fun x hx => ?_)) fun r5 h5 => ?_)))
  · simp only [List.mem_cons, List.not_mem_nil, or_false] at hx
    rcases hx with e | e | e | e | e <;> rw [e] <;> first | (rw [strN_len', List.length_replicate]; decide) | decide
  refine ok_bind (pick_ok h5.2 (by omega) _ ⟨by simp, by simp⟩) fun r7 h7 => ok_bind (chunkText_ok h7.2 (by omega)) fun r9 h9 => ?_
  obtain ⟨u, u1, u2⟩ := unchunk_eq r9.1 (by omega) h9.2
  have hz : 0 ≤ r7.1 ∧ r7.1 ≤ 20001 := by
    have := h7.1
    simp only [List.mem_cons, List.not_mem_nil, or_false] at this
    omega
  have hJ : ∀ (r11 : Bs × Int), Ok (gatelaw2_ChunksRead_J1 r9 r11 u r11.2 r11.1) (· = true) := by
    intro r11
    unfold gatelaw2_ChunksRead_J1 gatelaw2_ChunksRead_J2
    rw [u2]
    simp only [Option.bind_some, decide_true, if_true, spoken_eq]
    exact ⟨true, rfl, rfl⟩
  obtain ⟨z, hzz⟩ : ∃ z : Nat, r7.1 = (z : Int) := ⟨r7.1.toNat, by omega⟩
  have hwhen : ∀ (b : Bool) (e : Int), m_gatelaw2_when b e = some (if b then e else 0) := fun b e => by cases b <;> rfl
  unfold m_message_Chunk
  rw [out_eq, u1, hwhen, hwhen, hzz]
  simp only [Option.bind_some, errs2]
  have ho : (decide ((z : Int) < 1) || decide (20000 < (z : Int))) = outP (z : Int) 1 20000 := rfl
  rw [ho]
  cases hO : outP (z : Int) 1 20000
  · simp only [Bool.false_eq_true, if_false, ne_eq, not_true_eq_false]
    rw [outP_in] at hO
    simp at hO
    by_cases hb : 20000 < r5.1.length
    · rw [show decide (20000 < (r5.1.length : Int)) = true from by simp; omega]
      simp only [if_true, Option.bind_some]
      rw [if_neg (by simp), if_neg (by simp)]
      exact hJ ([], 2)
    · rw [show decide (20000 < (r5.1.length : Int)) = false from by simp; omega]
      simp only [Bool.false_eq_true, if_false]
      have hc := chunkP z (by omega) r5.1.length r5.1 [] (Nat.le_refl _) (by omega) (by simp; omega)
      simp only [numsB, List.map_nil, List.nil_append] at hc
      rw [hc]
      simp only [Option.bind_some]
      refine ok_if (fun _ => ?_) (fun _ => ok_if (fun _ => ?_) (fun h => absurd h (by simp)))
      · rw [chunksOf_eq r5.1 z (by omega) (by omega)]
        exact hJ (chB z r5.1 ++ [48, 13, 10, 13, 10], 0)
      · exact hJ (chB z r5.1 ++ [48, 13, 10, 13, 10], 0)
  · simp only [if_true, Option.bind_some]
    rw [if_pos (c := (1 : Int) ≠ 0) (by decide), if_neg (by simp), if_neg (by simp)]
    exact hJ ([], 1)
end Go.Proofs.YtbejggfkfaibeaaGreatDoor
