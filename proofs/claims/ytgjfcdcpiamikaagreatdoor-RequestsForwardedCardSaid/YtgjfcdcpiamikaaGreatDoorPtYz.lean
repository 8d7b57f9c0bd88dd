/- Plain: parts of values between commas; two loops over two lists. -/
import Derived.Test.YtgjfcdcpiamikaaGreatDoorCkYz
namespace Go.Proofs.YtgjfcdcpiamikaaGreatDoor
set_option linter.unusedVariables false
set_option maxRecDepth 20000
theorem spl_cons (c x : UInt8) (l : Bs) : spl c (x :: l) = if x = c then [] :: spl c l else match spl c l with
    | p :: ps => (x :: p) :: ps
    | [] => [[x]] := rfl
theorem spl_app2 (c : UInt8) (b : Bs) : ∀ a : Bs, spl c (a ++ c :: b) = spl c a ++ spl c b
  | [] => by
    rw [List.nil_append, spl_cons, if_pos rfl]; rfl
  | x :: a => by
    rw [List.cons_append, spl_cons, spl_cons, spl_app2 c b a]
    by_cases h : x = c
    · rw [if_pos h, if_pos h]; rfl
    · rw [if_neg h, if_neg h]
      cases hq : spl c a with
      | nil => exact absurd hq (spl_ne c a)
      | cons p ps => rfl
theorem spl_join (c : UInt8) : ∀ l : List Bs, l ≠ [] → spl c (Lib.join l [c]) = (l.map (spl c)).flatten
  | [], h => absurd rfl h
  | [x], _ => by rw [Lib.join_one]; simp
  | x :: y :: l, _ => by
    have h : Lib.join (x :: y :: l) [c] = x ++ c :: Lib.join (y :: l) [c] := by
      rw [Lib.join_cons, Lib.join_cons]
      simp [Lib.joinTail]
    rw [h, spl_app2, spl_join c (y :: l) (by simp)]
    simp
def tfB (l : List Bs) : List Bs := (l.map fun p => trL 32 (trR 32 p)).filter fun p => decide (p ≠ [])
theorem tfB_app (a b : List Bs) : tfB (a ++ b) = tfB a ++ tfB b := by simp [tfB]
theorem tfB_len (l : List Bs) : (tfB l).length ≤ l.length := by
  unfold tfB
  have := (List.filter_sublist (p := fun p : Bs => decide (p ≠ [])) (l := l.map fun p => trL 32 (trR 32 p))).length_le
  simpa using this
theorem tfB_mem {l : List Bs} {p : Bs} (h : p ∈ tfB l) : ∃ q, q ∈ l ∧ p.length ≤ q.length ∧ ∀ c, c ∈ p → c ∈ q := by
  unfold tfB at h
  obtain ⟨q, h1, h2⟩ := List.mem_map.1 (List.mem_filter.1 h).1
  have := trim_mem 32 q
  rw [h2] at this
  exact ⟨q, h1, this⟩
/-- the parts of values -/
def ptsB (l : List Bs) : List Bs := tfB (l.map (spl 44)).flatten
theorem ptsB_mem {l : List Bs} {p : Bs} (h : p ∈ ptsB l) : ∃ v, v ∈ l ∧ p.length ≤ v.length ∧ ∀ c, c ∈ p → c ∈ v := by
  obtain ⟨q, h1, h2, h3⟩ := tfB_mem h
  obtain ⟨x, h4, h5⟩ := List.mem_flatten.1 h1
  obtain ⟨v, h6, rfl⟩ := List.mem_map.1 h4
  have := spl_piece 44 v q h5
  exact ⟨v, h6, by omega, fun c hc => spl_mem 44 v q h5 c (h3 c hc)⟩
/-- two loops over two lists of one length -/
theorem forL_two {α β σ ρ : Type} {body : Nat → α → σ → Option (σ ⊕ ρ)} {body' : Nat → β → σ → Option (σ ⊕ ρ)} {fin fin' : σ → Option ρ} {R : ρ → Prop} (I : Nat → σ → Prop) : ∀ (l : List α) (l' : List β) (k : Nat) (s : σ), l.length = l'.length → I k s →
    (∀ j x y s, k ≤ j → l[j - k]? = some x → l'[j - k]? = some y → I j s → ∃ q, body j x s = some q ∧ body' j y s = some q ∧ rd (I (j + 1)) R q) → (∀ s, I (k + l.length) s → ∃ r, fin s = some r ∧ fin' s = some r ∧ R r) → ∃ r, forL body fin k l s = some r ∧ forL body' fin' k l' s = some r ∧ R r
  | [], [], k, s, _, h0, hs, hf => hf s h0
  | [], y :: l', k, s, hl, _, _, _ => by cases hl
  | x :: l, [], k, s, hl, _, _, _ => by cases hl
  | x :: l, y :: l', k, s, hl, h0, hs, hf => by
    obtain ⟨q, q1, q2, q3⟩ := hs k x y s (Nat.le_refl _) (by simp) (by simp) h0
    show ∃ r, (body k x s).bind _ = some r ∧ (body' k y s).bind _ = some r ∧ R r
    rw [q1, q2]
    cases q with
    | inl s' =>
      refine forL_two I l l' (k + 1) s' (by simpa using hl) q3 (fun j a b s hj ha hb hi => hs j a b s (by omega) ?_ ?_ hi) (fun s hi => hf s ?_)
      · obtain ⟨m, hm⟩ : ∃ m, j - k = m + 1 := ⟨j - k - 1, by omega⟩
        rw [hm, List.getElem?_cons_succ]
        have : j - (k + 1) = m := by omega
        rw [this] at ha; exact ha
      · obtain ⟨m, hm⟩ : ∃ m, j - k = m + 1 := ⟨j - k - 1, by omega⟩
        rw [hm, List.getElem?_cons_succ]
        have : j - (k + 1) = m := by omega
        rw [this] at hb; exact hb
      · simp only [List.length_cons]
        have : k + (l.length + 1) = k + 1 + l.length := by omega
        rw [this]; exact hi
    | inr r => exact ⟨r, rfl, rfl, q3⟩
def vlP (V : List Bs) : Prop := V.length ≤ 1000 ∧ ∀ v, v ∈ V → v.length ≤ 2000
theorem partsL2 : ∀ (l : List Bs) (k : Nat) (q : List Bs), (∀ x, x ∈ l → x.length ≤ 2000) → q.length + l.length ≤ 100000000 →
    forL (fun (k : Nat) (x : Bs) (s : (List Bs)) => message_Parts_L2 k x s) (fun (s : (List Bs)) => message_Parts_E2 s) k l q = some (.inl (q ++ tfB l))
  | [], k, q, _, _ => by show some (Sum.inl q) = _; simp [tfB]
  | x :: l, k, q, h, hl => by
    simp only [List.length_cons] at hl
    have hx := h x (by simp)
    have hst : message_Parts_L2 k x q = some (.inl (q ++ tfB [x])) := by
      unfold message_Parts_L2 message_Parts_J3
      rw [trim_eq 32 (by decide) x (by omega)]
      simp only [Option.bind_some]
      by_cases h0 : trL 32 (trR 32 x) = []
      · rw [if_neg (by simpa using h0)]
        simp [tfB, h0]
      · rw [if_pos (by simpa using h0), if_pos (by omega)]
        simp [tfB, h0]
    show (message_Parts_L2 k x q).bind _ = _
    rw [hst]
    have h1 := tfB_len [x]
    refine Eq.trans (partsL2 l (k + 1) (q ++ tfB [x]) (fun y hy => h y (List.mem_cons_of_mem _ hy)) (by simp only [List.length_append, List.length_cons, List.length_nil] at h1 ⊢; omega)) ?_
    rw [List.append_assoc, ← tfB_app]; rfl
theorem partsR : ∀ (l : List Bs) (k : Nat) (q : List Bs), (∀ x, x ∈ l → x.length ≤ 2000) → q.length + l.length ≤ 100000000 →
    forL (fun (k : Nat) (x : Bs) (s : (List Bs)) => gateref2_parts_L1 k x s) (fun (s : (List Bs)) => gateref2_parts_E1 s) k l q = some (q ++ tfB l)
  | [], k, q, _, _ => by show some q = _; simp [tfB]
  | x :: l, k, q, h, hl => by
    simp only [List.length_cons] at hl
    have hx := h x (by simp)
    have hst : gateref2_parts_L1 k x q = some (.inl (q ++ tfB [x])) := by
      unfold gateref2_parts_L1 gateref2_parts_J2
      rw [trim_eq 32 (by decide) x (by omega)]
      simp only [Option.bind_some]
      by_cases h0 : trL 32 (trR 32 x) = []
      · rw [if_neg (by simpa using h0)]
        simp [tfB, h0]
      · rw [if_pos (by simpa using h0), if_pos (by omega)]
        simp [tfB, h0]
    show (gateref2_parts_L1 k x q).bind _ = _
    rw [hst]
    have h1 := tfB_len [x]
    refine Eq.trans (partsR l (k + 1) (q ++ tfB [x]) (fun y hy => h y (List.mem_cons_of_mem _ hy)) (by simp only [List.length_append, List.length_cons, List.length_nil] at h1 ⊢; omega)) ?_
    rw [List.append_assoc, ← tfB_app]; rfl
theorem pieces_len (V : List Bs) (h : ∀ v, v ∈ V → v.length ≤ 2000) : (V.map (spl 44)).flatten.length ≤ V.length * 2001 ∧ ∀ x, x ∈ (V.map (spl 44)).flatten → x.length ≤ 2000 := by
  induction V with
  | nil => simp
  | cons v V ih =>
    obtain ⟨h1, h2⟩ := ih fun x hx => h x (List.mem_cons_of_mem _ hx)
    have h3 := spl_len 44 v
    have h4 := h v (by simp)
    simp only [List.map_cons, List.flatten_cons, List.length_append, List.length_cons, Nat.succ_mul]
    refine ⟨by omega, fun x hx => ?_⟩
    rcases List.mem_append.1 hx with hx | hx
    · have := spl_piece 44 v x hx; omega
    · exact h2 x hx
theorem partsL1 : ∀ (V : List Bs) (k : Nat) (q : List Bs), (∀ v, v ∈ V → v.length ≤ 2000) → q.length + V.length * 2001 ≤ 90000000 →
    forL (fun (k : Nat) (x : Bs) (s : (List Bs)) => message_Parts_L1 k x s) (fun (s : (List Bs)) => message_Parts_E1 s) k V q = some (q ++ ptsB V)
  | [], k, q, _, _ => by show some q = _; simp [ptsB, tfB]
  | v :: V, k, q, h, hl => by
    simp only [List.length_cons, Nat.succ_mul] at hl
    have hv := h v (by simp)
    have h3 := spl_len 44 v
    have hst : message_Parts_L1 k v q = some (.inl (q ++ tfB (spl 44 v))) := by
      unfold message_Parts_L1 m_strings_Split
      rw [if_pos ⟨by omega, by simp⟩, splitL_one]
      simp only [Option.bind_some]
      rw [if_pos (by omega)]
      exact partsL2 (spl 44 v) 0 q (fun x hx => by have := spl_piece 44 v x hx; omega) (by omega)
    show (message_Parts_L1 k v q).bind _ = _
    rw [hst]
    have h1 := tfB_len (spl 44 v)
    refine Eq.trans (partsL1 V (k + 1) (q ++ tfB (spl 44 v)) (fun y hy => h y (List.mem_cons_of_mem _ hy)) (by simp only [List.length_append]; omega)) ?_
    unfold ptsB
    rw [List.map_cons, List.flatten_cons, tfB_app, List.append_assoc]
theorem parts_msg (V : List Bs) (h : vlP V) : m_message_Parts V = some (ptsB V) := by
  obtain ⟨h1, h2⟩ := h
  unfold m_message_Parts
  rw [if_pos (by omega), partsL1 V 0 [] h2 (by simp; omega)]; rfl
theorem parts_ref (V : List Bs) (h : vlP V) : m_gateref2_parts V = some (ptsB V) := by
  obtain ⟨h1, h2⟩ := h
  have hj := join_le 2000 [44] V h2
  have hl : V.length * (2000 + ([44] : Bs).length) ≤ 1000 * 2001 := Nat.mul_le_mul h1 (by simp)
  have hp := pieces_len V h2
  unfold m_gateref2_parts m_strings_Join m_strings_Split
  rw [if_pos ⟨by omega, by omega⟩]
  simp only [Option.bind_some]
  rw [if_pos ⟨by omega, by simp⟩, splitL_one]
  simp only [Option.bind_some]
  cases hV : V with
  | nil =>
    have e : spl 44 (Lib.join [] [44]) = [[]] := rfl
    rw [e, if_pos (by simp), partsR [[]] 0 [] (by simp) (by simp)]
    rfl
  | cons v V' =>
    rw [spl_join 44 (v :: V') (by simp), ← hV, if_pos (by omega), partsR _ 0 [] hp.2 (by have := hp.1; simp only [List.length_nil]; omega)]
    rfl
def idxB (ns : List Bs) (nm : Bs) : Int := fdx (fun x => decide (nm = x)) 0 ns
theorem index_eq (ns : List Bs) (nm : Bs) (h : ns.length ≤ 1000000000) : m_slices_Index_L_string_string_ ns nm = some (idxB ns nm) :=
  gIdx_eq ns (p := fun x => some (decide (nm = x))) (fun x => decide (nm = x)) h fun _ _ => rfl
end Go.Proofs.YtgjfcdcpiamikaaGreatDoor
