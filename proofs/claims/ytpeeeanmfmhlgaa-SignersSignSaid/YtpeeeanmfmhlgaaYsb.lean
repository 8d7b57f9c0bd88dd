/- Plain: who signs at a moment, which moments no signer covers; the law SignersSign is true for every list of numbers. -/
import Derived.Test.YtpeeeanmfmhlgaaRa
import Derived.Test.YtpeeeanmfmhlgaaSp
namespace Go.Proofs.Ytpeeeanmfmhlgaa
set_option linter.unusedVariables false
set_option maxRecDepth 20000
/-- the neighbours in a list -/
def adj : List Int → List (Int × Int)
  | a :: b :: l => (a, b) :: adj (b :: l)
  | _ => []
def adjT (o : Option Int) (x : Int) : List (Int × Int) := match o with | some y => [(y, x)] | none => []
theorem adj_snoc (x : Int) : ∀ l : List Int, adj (l ++ [x]) = adj l ++ adjT l.getLast? x
  | [] => rfl
  | [a] => rfl
  | a :: b :: l => by
    show (a, b) :: adj (b :: l ++ [x]) = (a, b) :: adj (b :: l) ++ _
    rw [adj_snoc x (b :: l), List.getLast?_cons_cons]; rfl
theorem compact_last (l : List Int) : (Lib.compact l).getLast? = l.getLast? := by
  induction l using snocRec with
  | h0 => simp [Lib.compact, Lib.compactUpTo]
  | h1 l y ih =>
    rw [compact_snoc]
    split
    · rename_i h
      rw [List.append_nil, ih, h]; simp
    · simp
theorem adj_compact (l : List Int) : adj (Lib.compact l) = (adj l).filter fun p => decide (p.1 ≠ p.2) := by
  induction l using snocRec with
  | h0 => simp [Lib.compact, Lib.compactUpTo, adj]
  | h1 l x ih =>
    rw [compact_snoc, adj_snoc]
    split
    · rename_i h
      rw [List.append_nil, ih, h]; simp [adjT]
    · rename_i h
      rw [adj_snoc, ih, compact_last, List.filter_append]
      cases hl : l.getLast? with
      | none => simp [adjT]
      | some y =>
        have : y ≠ x := fun e => h (by rw [hl, e])
        simp [adjT, this]
theorem adj_len : ∀ l : List Int, (adj l).length = l.length - 1
  | [] => rfl
  | [a] => rfl
  | a :: b :: l => by
    show (adj (b :: l)).length + 1 = _
    rw [adj_len (b :: l)]; simp
theorem adj_drop : ∀ (l : List Int) (i : Nat) (a b : Int), l[i]? = some a → l[i + 1]? = some b → (adj l).drop i = (a, b) :: (adj l).drop (i + 1)
  | [], i, a, b, h, _ => by simp at h
  | [x], i, a, b, _, h => by simp at h
  | x :: y :: l, 0, a, b, h, k => by cases h; cases k; rfl
  | x :: y :: l, i + 1, a, b, h, k => by
    show (adj (y :: l)).drop i = (a, b) :: (adj (y :: l)).drop (i + 1)
    exact adj_drop (y :: l) i a b h k
theorem adj_end (l : List Int) (i : Nat) (h : l.length ≤ i + 1) : (adj l).drop i = [] := List.drop_eq_nil_of_le (by rw [adj_len]; omega)

abbrev sortI (l : List Int) : List Int := l.mergeSort fun x y => decide (x ≤ y)
theorem sortI_le (l : List Int) : (sortI l).Pairwise fun x y => x ≤ y := by
  have h := List.pairwise_mergeSort (le := fun x y : Int => decide (x ≤ y)) (fun a b c h k => by
    have h := of_decide_eq_true h
    have k := of_decide_eq_true k
    exact decide_eq_true (Int.le_trans h k)) (fun a b => by
    rcases Int.le_total a b with h | h <;> simp [h]) l
  exact h.imp fun h => of_decide_eq_true h
theorem sortI_mem (l : List Int) (x : Int) : x ∈ sortI l ↔ x ∈ l := List.mem_mergeSort
theorem sortI_len (l : List Int) : (sortI l).length = l.length := by simp [sortI]
abbrev RiseI (l : List Int) : Prop := l.Pairwise fun x y => x < y
theorem riseI_ext {l1 l2 : List Int} (h1 : RiseI l1) (h2 : RiseI l2) (h : ∀ x, x ∈ l1 ↔ x ∈ l2) : l1 = l2 := by
  have n1 : l1.Nodup := h1.imp fun h e => by subst e; exact Int.lt_irrefl _ h
  have n2 : l2.Nodup := h2.imp fun h e => by subst e; exact Int.lt_irrefl _ h
  refine List.Perm.eq_of_pairwise (le := fun x y => x < y) (fun a b _ _ hab hba => absurd hba (Int.lt_asymm hab)) h1 h2 ?_
  rw [List.perm_ext_iff_of_nodup n1 n2]
  exact h
theorem compactI_rise (l : List Int) (h : l.Pairwise fun x y => x ≤ y) : RiseI (Lib.compact l) := by
  induction l using snocRec with
  | h0 => simp [Lib.compact, Lib.compactUpTo]
  | h1 l y ih =>
    obtain ⟨h1, _, h3⟩ := List.pairwise_append.1 h
    rw [compact_snoc]
    split
    · rw [List.append_nil]; exact ih h1
    · rename_i hne
      refine List.pairwise_append.2 ⟨ih h1, by simp, fun a ha b hb => ?_⟩
      simp only [List.mem_singleton] at hb
      subst hb
      have ha := (compact_mem l a).1 ha
      have hle := h3 a ha b (by simp)
      suffices a ≠ b by omega
      rintro rfl
      obtain ⟨l', z, rfl⟩ : ∃ l' z, l = l' ++ [z] := by
        rcases List.eq_nil_or_concat l with rfl | ⟨l', z, rfl⟩
        · cases ha
        · exact ⟨l', z, List.concat_eq_append⟩
      rcases List.mem_append.1 ha with ha | ha
      · have h5 := (List.pairwise_append.1 h1).2.2 a ha z (by simp)
        have h6 := h3 z (by simp) a (by simp)
        have : a = z := by omega
        subst this
        exact hne (by simp)
      · simp only [List.mem_singleton] at ha
        subst ha
        exact hne (by simp)
theorem setI_same (l1 l2 : List Int) (h : ∀ x, x ∈ l1 ↔ x ∈ l2) : Lib.compact (sortI l1) = Lib.compact (sortI l2) :=
  riseI_ext (compactI_rise _ (sortI_le _)) (compactI_rise _ (sortI_le _)) fun x => by rw [compact_mem, compact_mem, sortI_mem, sortI_mem]; exact h x

/-- loops that append what passes a test -/
theorem forL_filter {ρ : Type} {body : Nat → Int → List Int → Option (List Int ⊕ ρ)} {fin : List Int → Option ρ} (p : Int → Bool) (hb : ∀ k x s, body k x s = if p x then (if s.length + 1 ≤ 1000000000 then some (.inl (s ++ [x])) else none) else some (.inl s)) : ∀ (l : List Int) (k : Nat) (s : List Int), s.length + l.length ≤ 1000000000 → forL body fin k l s = fin (s ++ l.filter p)
  | [], k, s, _ => by simp [forL]
  | x :: l, k, s, h => by
    show (body k x s).bind _ = _
    simp only [List.length_cons] at h
    rw [hb]
    cases hp : p x
    · simp only [Bool.false_eq_true, if_false, Option.bind_some, after]
      rw [List.filter_cons_of_neg (by simp [hp])]
      exact forL_filter p hb l (k + 1) s (by omega)
    · rw [if_pos rfl, if_pos (by omega)]
      simp only [Option.bind_some, after]
      rw [List.filter_cons_of_pos hp, List.append_cons s x (l.filter p)]
      exact forL_filter p hb l (k + 1) (s ++ [x]) (by simp; omega)
theorem forL_flat {α ρ : Type} {body : Nat → α → List Int → Option (List Int ⊕ ρ)} {fin : List Int → Option ρ} (g : α → List Int) (hg : ∀ x, (g x).length ≤ 3) (hb : ∀ k x s, s.length ≤ 100000000 → body k x s = some (.inl (s ++ g x))) : ∀ (l : List α) (k : Nat) (s : List Int), s.length + 3 * l.length ≤ 100000000 → forL body fin k l s = fin (s ++ l.flatMap g)
  | [], k, s, _ => by simp [forL]
  | x :: l, k, s, h => by
    show (body k x s).bind _ = _
    simp only [List.length_cons] at h
    rw [hb k x s (by omega)]
    simp only [Option.bind_some, after]
    have := hg x
    rw [forL_flat g hg hb l (k + 1) (s ++ g x) (by simp; omega), List.flatMap_cons, List.append_assoc]

/-- who signs -/
theorem back_ok (v : Int) (l : List S_api_Signer) : ∀ n, n ≤ l.length → Ok (back (fun (k : Nat) (x : S_api_Signer) (s : Unit) => gateref2_SignerOf_L1 v k x) (fun (s : Unit) => gateref2_SignerOf_E1) l n ()) fun r => r.2 = false → r.1.Id = []
  | 0, _ => ok_some fun _ => rfl
  | n + 1, h => by
    show Ok ((l[n]?).bind _) _
    rw [List.getElem?_eq_getElem (by omega)]
    show Ok ((gateref2_SignerOf_L1 v n l[n]).bind _) _
    unfold gateref2_SignerOf_L1
    split
    · exact ok_some fun h => by cases h
    · exact back_ok v l n (by omega)
theorem signer_ok (l : List S_api_Signer) (hl : SgB l) (v : Int) : Ok (m_gateref2_SignerOf l v) fun r => r.2 = false → r.1.Id = [] := by
  unfold m_gateref2_SignerOf
  have := hl.len
  exact ok_g (by omega) (back_ok v l _ (Nat.le_refl _))
noncomputable def sgAt (l : List S_api_Signer) (v : Int) : S_api_Signer × Bool := (m_gateref2_SignerOf l v).getD (⟨[], [], 0, 0, 0⟩, false)
theorem sgAt_eq (l : List S_api_Signer) (hl : SgB l) (v : Int) : m_gateref2_SignerOf l v = some (sgAt l v) ∧ ((sgAt l v).2 = false → (sgAt l v).1.Id = []) := by
  obtain ⟨r, h1, h2⟩ := signer_ok l hl v
  unfold sgAt
  rw [h1]
  exact ⟨rfl, h2⟩
theorem sgAt_P (l : List S_api_Signer) (hl : SgB l) (v : Int) : m_token_signerAt l v = some (sgAt l v) := (sgAt_eq l hl v).1
noncomputable def cov (l : List S_api_Signer) (life a : Int) : Bool := (sgAt l a).2 && decide (wr (a + life) ≤ (sgAt l a).1.Until)

/-- a window is added, or the last one is made longer -/
def addW (out : List S_api_Window) (p : Int × Int) : List S_api_Window := match out[out.length - 1]? with
  | some w => if w.To = p.1 then out.set (out.length - 1) ⟨w.From, p.2⟩ else out ++ [⟨p.1, p.2⟩]
  | none => out ++ [⟨p.1, p.2⟩]
noncomputable def stepW (l : List S_api_Signer) (life : Int) (out : List S_api_Window) (p : Int × Int) : List S_api_Window := if cov l life p.1 then out else addW out p
theorem addW_len (out : List S_api_Window) (p : Int × Int) : (addW out p).length ≤ out.length + 1 := by
  unfold addW
  split
  · split <;> simp
  · simp
theorem stepW_len (l : List S_api_Signer) (life : Int) (out : List S_api_Window) (p : Int × Int) : (stepW l life out p).length ≤ out.length + 1 := by
  unfold stepW
  split
  · omega
  · exact addW_len out p
theorem foldW_len (l : List S_api_Signer) (life : Int) : ∀ (ps : List (Int × Int)) (out : List S_api_Window), (ps.foldl (stepW l life) out).length ≤ out.length + ps.length
  | [], out => by simp
  | p :: ps, out => by
    have h1 := foldW_len l life ps (stepW l life out p)
    have h2 := stepW_len l life out p
    simp only [List.foldl_cons, List.length_cons]
    omega
section
variable (l : List S_api_Signer) (hl : SgB l) (life : Int)
include hl
omit hl in
theorem unc_J6 (r : List Int) (i : Nat) (out : List S_api_Window) (a b : Int) (hb : r[i + 1]? = some b) (hi : i ≤ 1000000) (ho : out.length ≤ i) (c : Bool) : token_Uncovered_J6 r (i : Int) out a c = some (.inl (((i + 1 : Nat) : Int), if c then out else addW out (a, b))) := by
  have hw := wr_nat (k := i) (by omega)
  unfold token_Uncovered_J6 token_Uncovered_J7 token_Uncovered_J5
  simp only [hw, at_nat, hb, Option.bind_some]
  cases c
  · simp only [Bool.false_eq_true, if_false]
    rcases Nat.eq_zero_or_pos out.length with h0 | h0
    · obtain rfl := List.eq_nil_of_length_eq_zero h0
      simp [addW, wr_id]
    · obtain ⟨w, hwo⟩ : ∃ w, out[out.length - 1]? = some w := ⟨_, List.getElem?_eq_getElem (by omega)⟩
      have e1 : wr ((out.length : Int) - 1) = ((out.length - 1 : Nat) : Int) := by rw [wr_id (by omega)]; omega
      rw [e1, if_pos (by simp)]
      simp only [at_nat, hwo, Option.bind_some, Int.toNat_natCast]
      unfold addW
      rw [hwo]
      by_cases h : w.To = a
      · simp [h]
      · simp only [h, decide_false, Bool.false_eq_true, if_false]
        rw [if_pos (by omega)]
  · rfl
theorem uncP (r : List Int) (hr : r.length ≤ 1000000) : ∀ (m i : Nat) (out : List S_api_Window), r.length ≤ i + 1 + m → out.length ≤ i → i ≤ 1000000 →
    iter (fun (s : Int × (List S_api_Window)) => token_Uncovered_L4 l life r s.1 s.2) ((i : Int), out) = some (((adj r).drop i).foldl (stepW l life) out, 0) := by
  intro m
  induction m with
  | zero =>
    intro i out h1 h2 h3
    rw [iter_eq]
    show (token_Uncovered_L4 l life r (i : Int) out).bind _ = _
    unfold token_Uncovered_L4 token_Uncovered_J3
    rw [wr_nat (by omega), if_neg (by simp; omega), adj_end r i (by omega)]
    rfl
  | succ m ih =>
    intro i out h1 h2 h3
    rw [iter_eq]
    show (token_Uncovered_L4 l life r (i : Int) out).bind _ = _
    unfold token_Uncovered_L4 token_Uncovered_J3
    rw [wr_nat (by omega)]
    by_cases h : i + 1 < r.length
    · obtain ⟨a, ha⟩ : ∃ a, r[i]? = some a := ⟨_, List.getElem?_eq_getElem (by omega)⟩
      obtain ⟨b, hb⟩ : ∃ b, r[i + 1]? = some b := ⟨_, List.getElem?_eq_getElem h⟩
      rw [if_pos (by simp; omega), adj_drop r i a b ha hb]
      simp only [at_nat, ha, Option.bind_some, sgAt_P l hl a]
      have hst : (if (sgAt l a).2 = true then token_Uncovered_J6 r (i : Int) out a (decide (wr (a + life) ≤ (sgAt l a).1.Until)) else token_Uncovered_J6 r (i : Int) out a false) = some (.inl (((i + 1 : Nat) : Int), stepW l life out (a, b))) := by
        rw [unc_J6 r i out a b hb h3 h2, unc_J6 r i out a b hb h3 h2]
        unfold stepW cov
        cases (sgAt l a).2 <;> simp
      rw [hst]
      simp only [Option.bind_some, after, List.foldl_cons]
      exact ih (i + 1) _ (by omega) (Nat.le_trans (stepW_len l life out (a, b)) (by omega)) (by omega)
    · rw [if_neg (by simp; omega), adj_end r i (by omega)]
      rfl
omit hl in
theorem unc_J5 (v : Int) (out : List S_api_Window) (a b : Int) (hl' : out.length ≤ 1000000) :
    (if decide (0 ≤ (wr ((out.length : Int) - 1))) then ((at? out (wr ((out.length : Int) - 1))).bind fun (x24 : S_api_Window) => gateref2_UncoveredOf_J5 v out a b (decide (x24.To = a))) else (gateref2_UncoveredOf_J5 v out a b false)) = gateref2_UncoveredOf_J4 v (addW out (a, b)) := by
  unfold gateref2_UncoveredOf_J5
  rcases Nat.eq_zero_or_pos out.length with h0 | h0
  · obtain rfl := List.eq_nil_of_length_eq_zero h0
    simp [addW, wr_id]
  · obtain ⟨w, hwo⟩ : ∃ w, out[out.length - 1]? = some w := ⟨_, List.getElem?_eq_getElem (by omega)⟩
    have e1 : wr ((out.length : Int) - 1) = ((out.length - 1 : Nat) : Int) := by rw [wr_id (by omega)]; omega
    rw [e1, if_pos (by simp)]
    simp only [at_nat, hwo, Option.bind_some, Int.toNat_natCast]
    unfold addW
    rw [hwo]
    by_cases h : w.To = a
    · simp [h]
    · simp only [h, decide_false, Bool.false_eq_true, if_false]
      rw [if_pos (by omega)]
noncomputable def stepR (l : List S_api_Signer) (life : Int) (out : List S_api_Window) (p : Int × Int) : List S_api_Window := if decide (p.1 ≠ p.2) then stepW l life out p else out
theorem uncR (r : List Int) (hr : r.length ≤ 1000000) : ∀ (m i : Nat) (out : List S_api_Window), r.length ≤ i + 1 + m → out.length ≤ i → i ≤ 1000000 →
    iter (fun (s : Int × (List S_api_Window)) => gateref2_UncoveredOf_L3 l life r s.1 s.2) (((i + 1 : Nat) : Int), out) = some (((adj r).drop i).foldl (stepR l life) out) := by
  intro m
  induction m with
  | zero =>
    intro i out h1 h2 h3
    rw [iter_eq]
    show (gateref2_UncoveredOf_L3 l life r ((i + 1 : Nat) : Int) out).bind _ = _
    unfold gateref2_UncoveredOf_L3 gateref2_UncoveredOf_J2
    rw [if_neg (by simp; omega), adj_end r i (by omega)]
    rfl
  | succ m ih =>
    intro i out h1 h2 h3
    rw [iter_eq]
    show (gateref2_UncoveredOf_L3 l life r ((i + 1 : Nat) : Int) out).bind _ = _
    unfold gateref2_UncoveredOf_L3 gateref2_UncoveredOf_J2
    by_cases h : i + 1 < r.length
    · obtain ⟨a, ha⟩ : ∃ a, r[i]? = some a := ⟨_, List.getElem?_eq_getElem (by omega)⟩
      obtain ⟨b, hb⟩ : ∃ b, r[i + 1]? = some b := ⟨_, List.getElem?_eq_getElem h⟩
      have e1 : wr (((i + 1 : Nat) : Int) - 1) = ((i : Nat) : Int) := by rw [wr_id (by omega)]; omega
      rw [if_pos (by simp; omega), adj_drop r i a b ha hb, e1]
      simp only [at_nat, ha, hb, Option.bind_some, (sgAt_eq l hl a).1]
      rw [unc_J5 _ out a b (by omega)]
      have hst : (if ((decide (a = b)) || ((sgAt l a).2 && (decide ((wr (a + life)) ≤ (sgAt l a).1.Until)))) = true then (gateref2_UncoveredOf_J4 ((i + 1 : Nat) : Int) out) else gateref2_UncoveredOf_J4 ((i + 1 : Nat) : Int) (addW out (a, b))) = some (.inl (((i + 1 + 1 : Nat) : Int), stepR l life out (a, b))) := by
        unfold gateref2_UncoveredOf_J4 stepR stepW cov
        rw [wr_nat (by omega)]
        by_cases hab : a = b
        · simp [hab]
        · cases h5 : ((sgAt l a).2 && (decide ((wr (a + life)) ≤ (sgAt l a).1.Until))) <;> simp [hab]
      rw [hst]
      simp only [Option.bind_some, after, List.foldl_cons]
      refine ih (i + 1) _ (by omega) ?_ (by omega)
      unfold stepR
      split
      · have := stepW_len l life out (a, b); omega
      · omega
    · rw [if_neg (by simp; omega), adj_end r i (by omega)]
      rfl
end
def cut3 (life : Int) (x : S_api_Signer) : List Int := [x.From, x.To, wr ((wr (x.Until - life)) + 1)]
def inP (v : S_api_Window) (n : Int) : Bool := decide (v.From < n) && decide (n < v.To)
def inR (v : S_api_Window) (n : Int) : Bool := decide (v.From ≤ n) && decide (n ≤ v.To)
def cutsP (l : List S_api_Signer) (v : S_api_Window) (life : Int) : List Int := [v.From, v.To] ++ l.flatMap fun x => (cut3 life x).filter (inP v)
def cutsR (l : List S_api_Signer) (v : S_api_Window) (life : Int) : List Int := [v.From, v.To] ++ l.flatMap fun x => (cut3 life x).filter (inR v)
theorem cuts_same (l : List S_api_Signer) (v : S_api_Window) (life : Int) (x : Int) : x ∈ cutsP l v life ↔ x ∈ cutsR l v life := by
  unfold cutsP cutsR inP inR
  simp only [List.mem_append, List.mem_flatMap, List.mem_filter, Bool.and_eq_true, decide_eq_true_eq, List.mem_cons, List.not_mem_nil, or_false]
  constructor
  · rintro (h | ⟨y, h1, h2, h3⟩)
    · exact .inl h
    · exact .inr ⟨y, h1, h2, by omega, by omega⟩
  · rintro (h | ⟨y, h1, h2, h3⟩)
    · exact .inl h
    · by_cases ha : x = v.From
      · exact .inl (.inl ha)
      · by_cases hb : x = v.To
        · exact .inl (.inr hb)
        · exact .inr ⟨y, h1, h2, by omega, by omega⟩
theorem cutF_len (p : Int → Bool) (life : Int) : ∀ l : List S_api_Signer, (l.flatMap fun x => (cut3 life x).filter p).length ≤ 3 * l.length
  | [] => by simp
  | x :: l => by
    have h1 := cutF_len p life l
    have h2 : ((cut3 life x).filter p).length ≤ 3 := Nat.le_trans (List.length_filter_le _ _) (by simp [cut3])
    simp only [List.flatMap_cons, List.length_append, List.length_cons]
    omega
noncomputable def uncW (l : List S_api_Signer) (v : S_api_Window) (life : Int) : List S_api_Window := (adj (Lib.compact (sortI (cutsP l v life)))).foldl (stepW l life) []
theorem uncW_len (l : List S_api_Signer) (hl : SgB l) (v : S_api_Window) (life : Int) : (uncW l v life).length ≤ 1000000 := by
  have h := foldW_len l life (adj (Lib.compact (sortI (cutsP l v life)))) []
  have h1 := compact_lenI (sortI (cutsP l v life))
  rw [sortI_len] at h1
  have h2 := cutF_len (inP v) life l
  have := hl.len
  rw [adj_len] at h
  have h3 : (cutsP l v life).length ≤ 3002 := by unfold cutsP; simp only [List.length_append, List.length_cons, List.length_nil]; omega
  unfold uncW
  simp only [List.length_nil] at h
  omega
theorem uncP_eq (l : List S_api_Signer) (hl : SgB l) (v : S_api_Window) (life : Int) : (if l.length ≤ 1000000000 then forL (fun (k : Nat) (x : S_api_Signer) (s : (List Int)) => token_Uncovered_L2 v life k x s) (fun (s : (List Int)) => token_Uncovered_E2 l life s) 0 l ([v.From, v.To] : (List Int)) else none) = some (uncW l v life, 0) := by
  have hn := hl.len
  have h2 := cutF_len (inP v) life l
  have h3 : (cutsP l v life).length ≤ 3002 := by unfold cutsP; simp only [List.length_append, List.length_cons, List.length_nil]; omega
  have h1 := compact_lenI (sortI (cutsP l v life))
  rw [sortI_len] at h1
  rw [if_pos (by omega), forL_flat (fun x => (cut3 life x).filter (inP v)) (fun x => Nat.le_trans (List.length_filter_le _ _) (by simp [cut3])) (fun k x s hs => ?_) l 0 _ (by simp; omega)]
  · show token_Uncovered_E2 l life (cutsP l v life) = _
    unfold token_Uncovered_E2 m_slices_Sort_int m_slices_Compact_int
    rw [if_pos (by omega)]
    simp only [Option.bind_some]
    rw [if_pos (by rw [sortI_len]; omega)]
    simp only [Option.bind_some]
    have := uncP l hl life (Lib.compact (sortI (cutsP l v life))) (by omega) 4000 0 [] (by omega) (by simp) (by omega)
    simpa [uncW] using this
  · unfold token_Uncovered_L2
    rw [if_pos (by simp)]
    refine (forL_filter (inP v) (fun k x s => ?_) (cut3 life x) 0 s (by simp [cut3]; omega)).trans rfl
    rfl
theorem uncR_eq (l : List S_api_Signer) (hl : SgB l) (v : S_api_Window) (life : Int) : m_gateref2_UncoveredOf l v life = some (uncW l v life) := by
  have hn := hl.len
  have h2 := cutF_len (inR v) life l
  have h3 : (cutsR l v life).length ≤ 3002 := by unfold cutsR; simp only [List.length_append, List.length_cons, List.length_nil]; omega
  unfold m_gateref2_UncoveredOf
  rw [if_pos (by omega), forL_flat (fun x => (cut3 life x).filter (inR v)) (fun x => Nat.le_trans (List.length_filter_le _ _) (by simp [cut3])) (fun k x s hs => ?_) l 0 _ (by simp; omega)]
  · show gateref2_UncoveredOf_E1 l life (cutsR l v life) = _
    unfold gateref2_UncoveredOf_E1 m_slices_Sort_int
    rw [if_pos (by omega)]
    simp only [Option.bind_some]
    have h5 := uncR l hl life (sortI (cutsR l v life)) (by rw [sortI_len]; omega) 4000 0 [] (by rw [sortI_len]; omega) (by simp) (by omega)
    refine Eq.trans h5 ?_
    unfold uncW
    rw [setI_same _ _ (cuts_same l v life), adj_compact, List.foldl_filter, List.drop_zero]
    rfl
  · unfold gateref2_UncoveredOf_L1
    rw [if_pos (by simp)]
    refine (forL_filter (inR v) (fun k x s => ?_) (cut3 life x) 0 s (by simp [cut3]; omega)).trans rfl
    unfold gateref2_UncoveredOf_L6 gateref2_UncoveredOf_J7 m_gateref2_in
    rfl
def badW (v : S_api_Window) (life : Int) : Bool := outP v.From 0 v.To || decide (345686400000 < v.To) || outP life 0 345686400000
theorem unc_eq (l : List S_api_Signer) (hl : SgB l) (v : S_api_Window) (life : Int) : m_token_Uncovered l v life = some (if sgF l ≠ 0 then ([], sgF l) else if badW v life then ([], 1) else (uncW l v life, 0)) := by
  unfold m_token_Uncovered
  rw [chkS_eq l hl]
  simp only [Option.bind_some, out_eq]
  by_cases h0 : sgF l = 0
  · simp only [h0, ne_eq, not_true_eq_false, decide_false, Bool.false_eq_true, if_false]
    have hJ : ∀ b, token_Uncovered_J1 l v life b = some (if b = true then ([], 1) else (uncW l v life, 0)) := by
      intro b
      unfold token_Uncovered_J1
      cases b
      · simp only [Bool.false_eq_true, if_false]; exact uncP_eq l hl v life
      · rfl
    simp only [hJ]
    unfold badW
    cases outP v.From 0 v.To <;> simp
    by_cases h : 345686400000 < v.To <;> simp [h]
  · simp [h0]
def sgA (l : List S_api_Signer) (v : Int) : Int := if sgF l ≠ 0 then sgF l else if momP v then 0 else 1
theorem at_eq (l : List S_api_Signer) (hl : SgB l) (v : Int) : m_token_SignerAt l v = some (if sgA l v ≠ 0 then ([], sgA l v) else ((sgAt l v).1.Id, if (sgAt l v).2 then 0 else 8)) := by
  unfold m_token_SignerAt m_token_momentFault sgA
  rw [chkS_eq l hl, isMoment_eq, sgAt_P l hl]
  have h2 := (sgAt_eq l hl v).2
  simp only [Option.bind_some]
  by_cases h0 : sgF l = 0
  · cases momP v
    · simp [h0]
    · cases h3 : (sgAt l v).2
      · simp [h0, h2 h3]
      · simp [h0]
  · simp [h0]
theorem when_eq (b : Bool) (e : Int) : m_gatelaw2_when b e = some (if b then e else 0) := by unfold m_gatelaw2_when; cases b <;> rfl
theorem errs2_eq (a b : Int) : m_gatelaw2_errs [a, b] = some (if a ≠ 0 then a else b) := by
  unfold m_gatelaw2_errs gatelaw2_errs_L1 gatelaw2_errs_E1
  by_cases h : a = 0 <;> by_cases k : b = 0 <;> simp [forL, after, h, k]
theorem errs3_eq (a b c : Int) : m_gatelaw2_errs [a, b, c] = some (if a ≠ 0 then a else if b ≠ 0 then b else c) := by
  unfold m_gatelaw2_errs gatelaw2_errs_L1 gatelaw2_errs_E1
  by_cases h : a = 0 <;> by_cases k : b = 0 <;> by_cases j : c = 0 <;> simp [forL, after, h, k, j]
theorem eqW_self (l : List S_api_Window) (h : l.length ≤ 1000000000) : m_slices_Equal_L_api_Window_api_Window_ l l = some true :=
  gEql_self (fun x7 x10 : S_api_Window => !((x7.From == x10.From) && ((x7.To == x10.To) && true))) (fun x => by simp) l h
theorem signersSign_plain (L : List Int) : m_gatelaw2_SignersSign L = some true := by
  refine ok_eq ?_
  unfold m_gatelaw2_SignersSign
  refine ok_bind (signers_ok (k := 0) ⟨by simp, by simp⟩ (by omega)) fun r2 h2 => ok_bind (moment_ok h2.2 (by omega)) fun r4 h4 => ok_bind (pick_ok h4 (by omega) _ ⟨by simp, by simp⟩) fun r6 h6 => ok_bind (pick_ok h6.2 (by omega) _ ⟨by simp, by simp⟩) fun r8 h8 => ok_bind (pick_ok h8.2 (by omega) _ ⟨by simp, by simp⟩) fun r10 h10 => ok_bind (flip_ok h10.2 (by omega) _ (by omega)) fun r12 h12 => ?_
  obtain ⟨hl, _⟩ := h2
  have hn := hl.len
  have hJ1 : ∀ F T : Int, Ok (gatelaw2_SignersSign_J1 r2 r4 r6 F T) (· = true) := by
    intro F T
    refine ok_of (x := true) ?_ rfl
    unfold gatelaw2_SignersSign_J1 m_gatelaw2_momentFault
    rw [at_eq r2.1 hl, unc_eq r2.1 hl, faultS_eq r2.1 hl, chkS_eq r2.1 hl, moment_eq]
    simp only [Option.bind_some, when_eq, errs2_eq, (sgAt_eq r2.1 hl r4.1).1]
    rw [if_neg (by simp)]
    have hA : (if sgF r2.1 ≠ 0 then sgF r2.1 else if (!momP r4.1) = true then 1 else 0) = sgA r2.1 r4.1 := by
      unfold sgA; cases momP r4.1 <;> rfl
    rw [hA]
    have hJ2 : ∀ (e : Int) (i : Bs), gatelaw2_SignersSign_J2 r2 r6 F T (i, e) (if sgF r2.1 ≠ 0 then ([], sgF r2.1) else if badW ⟨F, T⟩ r6.1 = true then ([], 1) else (uncW r2.1 ⟨F, T⟩ r6.1, 0)) (sgF r2.1) e i = some true := by
      intro e i
      unfold gatelaw2_SignersSign_J2
      simp only [when_eq, Option.bind_some, errs3_eq]
      have hJ3 : ∀ (w : List S_api_Window) (k : Int), w.length ≤ 1000000000 → gatelaw2_SignersSign_J3 (i, e) (w, k) e i k w = some true := by
        intro w k hw
        unfold gatelaw2_SignersSign_J3 gatelaw2_SignersSign_J4
        simp only [decide_true, if_true, eqW_self w hw, Option.bind_some, signed_eq]
      have hB : (if ((decide (F < 0) || decide (T < F)) || decide (345686400000 < T)) = true then (1 : Int) else 0) ≠ 0 ∨ (if (decide (r6.1 < 0) || decide (345686400000 < r6.1)) = true then (1 : Int) else 0) ≠ 0 ↔ badW ⟨F, T⟩ r6.1 = true := by
        unfold badW outP
        cases decide (F < 0) <;> cases decide (T < F) <;> cases decide (345686400000 < T) <;> cases decide (r6.1 < 0) <;> cases decide (345686400000 < r6.1) <;> decide
      by_cases h0 : sgF r2.1 = 0
      · simp only [h0, ne_eq, not_true_eq_false, if_false]
        by_cases hb : badW ⟨F, T⟩ r6.1 = true
        · have hone : (if ¬ (if ((decide (F < 0) || decide (T < F)) || decide (345686400000 < T)) = true then (1 : Int) else 0) = 0 then (if ((decide (F < 0) || decide (T < F)) || decide (345686400000 < T)) = true then (1 : Int) else 0) else (if (decide (r6.1 < 0) || decide (345686400000 < r6.1)) = true then (1 : Int) else 0)) = 1 := by
            have := hB.2 hb
            revert this
            cases ((decide (F < 0) || decide (T < F)) || decide (345686400000 < T)) <;> cases (decide (r6.1 < 0) || decide (345686400000 < r6.1)) <;> decide
          rw [hone, if_pos hb, if_neg (by decide)]
          exact hJ3 [] 1 (by simp)
        · have hone : (if ¬ (if ((decide (F < 0) || decide (T < F)) || decide (345686400000 < T)) = true then (1 : Int) else 0) = 0 then (if ((decide (F < 0) || decide (T < F)) || decide (345686400000 < T)) = true then (1 : Int) else 0) else (if (decide (r6.1 < 0) || decide (345686400000 < r6.1)) = true then (1 : Int) else 0)) = 0 := by
            have := fun h => hb (hB.1 h)
            revert this
            cases ((decide (F < 0) || decide (T < F)) || decide (345686400000 < T)) <;> cases (decide (r6.1 < 0) || decide (345686400000 < r6.1)) <;> simp
          rw [hone, if_neg hb, if_pos (by decide), uncR_eq r2.1 hl]
          simp only [Option.bind_some]
          exact hJ3 _ 0 (by have := uncW_len r2.1 hl ⟨F, T⟩ r6.1; omega)
      · simp only [ne_eq, h0, not_false_eq_true, if_true]
        rw [if_neg (by simp)]
        exact hJ3 [] _ (by simp)
    by_cases h0 : sgA r2.1 r4.1 = 0
    · rw [if_pos (by simpa using h0)]
      simp only [h0, ne_eq, not_true_eq_false, if_false]
      have : (if (!(sgAt r2.1 r4.1).2) = true then (8 : Int) else 0) = if (sgAt r2.1 r4.1).2 = true then 0 else 8 := by cases (sgAt r2.1 r4.1).2 <;> rfl
      rw [this]
      exact hJ2 _ _
    · rw [if_neg (by simpa using h0), if_pos h0]
      exact hJ2 _ _
  refine ok_if (fun _ => ?_) (fun _ => hJ1 _ _)
  exact ok_bind (odd_ok h12 (by omega) _ _ (by omega)) fun r15 h15 => ok_bind (odd_ok h15.2 (by omega) _ _ (by omega)) fun r17 _ => hJ1 _ _
end Go.Proofs.Ytpeeeanmfmhlgaa
