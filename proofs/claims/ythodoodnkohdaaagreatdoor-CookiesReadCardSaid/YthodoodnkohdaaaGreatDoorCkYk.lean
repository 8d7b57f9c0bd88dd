/- Plain: cookies: reading, writing, the program and the reference agree. -/
import Derived.Test.YthodoodnkohdaaaGreatDoorMiYk
import Derived.Test.YthodoodnkohdaaaGreatDoorHsYk
namespace Go.Proofs.YthodoodnkohdaaaGreatDoor
set_option linter.unusedVariables false
set_option maxRecDepth 20000
abbrev ckL : Bs := [99, 111, 111, 107, 105, 101]
/-- two loops, round by round -/
theorem forL_both {α σ ρ : Type} {body body' : Nat → α → σ → Option (σ ⊕ ρ)} {fin fin' : σ → Option ρ} {R : ρ → Prop} (I : Nat → σ → Prop) : ∀ (l : List α) (k : Nat) (s : σ), I k s →
    (∀ j x s, k ≤ j → l[j - k]? = some x → I j s → ∃ q, body j x s = some q ∧ body' j x s = some q ∧ rd (I (j + 1)) R q) → (∀ s, I (k + l.length) s → ∃ r, fin s = some r ∧ fin' s = some r ∧ R r) → ∃ r, forL body fin k l s = some r ∧ forL body' fin' k l s = some r ∧ R r
  | [], k, s, h0, hs, hf => hf s h0
  | x :: l, k, s, h0, hs, hf => by
    obtain ⟨q, q1, q2, q3⟩ := hs k x s (Nat.le_refl _) (by simp) h0
    show ∃ r, (body k x s).bind _ = some r ∧ (body' k x s).bind _ = some r ∧ R r
    rw [q1, q2]
    cases q with
    | inl s' =>
      refine forL_both I l (k + 1) s' q3 (fun j y s hj hy hi => hs j y s (by omega) ?_ hi) (fun s hi => hf s ?_)
      · obtain ⟨m, hm⟩ : ∃ m, j - k = m + 1 := ⟨j - k - 1, by omega⟩
        rw [hm, List.getElem?_cons_succ]
        have : j - (k + 1) = m := by omega
        rw [this] at hy; exact hy
      · simp only [List.length_cons]
        have : k + (l.length + 1) = k + 1 + l.length := by omega
        rw [this]; exact hi
    | inr r => exact ⟨r, rfl, rfl, q3⟩
/-- a loop that stops at the first that is bad -/
theorem forL_stop {α σ ρ : Type} {body : Nat → α → σ → Option (σ ⊕ ρ)} {fin : σ → Option ρ} {r0 : ρ} (I : σ → Prop) (bad : α → Bool) : ∀ (l : List α) (k : Nat) (s : σ), I s →
    (∀ j x s, x ∈ l → I s → if bad x = true then body j x s = some (.inr r0) else ∃ s', body j x s = some (.inl s') ∧ I s') → l.any bad = true → forL body fin k l s = some r0
  | [], k, s, h0, hs, hb => by cases hb
  | x :: l, k, s, h0, hs, hb => by
    have h1 := hs k x s (by simp) h0
    show (body k x s).bind _ = _
    cases hx : bad x
    · rw [hx] at h1
      simp only [Bool.false_eq_true, if_false] at h1
      obtain ⟨s', h2, h3⟩ := h1
      rw [h2]
      rw [List.any_cons, hx, Bool.false_or] at hb
      exact forL_stop I bad l (k + 1) s' h3 (fun j y s hy => hs j y s (List.mem_cons_of_mem _ hy)) hb
    · rw [hx] at h1
      simp only [if_true] at h1
      rw [h1]; rfl
/-- a loop that goes to its end -/
theorem forL_go {α σ ρ : Type} {body : Nat → α → σ → Option (σ ⊕ ρ)} {fin : σ → Option ρ} {r0 : ρ} (I : σ → Prop) (hf : ∀ s, I s → fin s = some r0) : ∀ (l : List α) (k : Nat) (s : σ), I s →
    (∀ j x s, x ∈ l → I s → ∃ s', body j x s = some (.inl s') ∧ I s') → forL body fin k l s = some r0
  | [], k, s, h0, hs => hf s h0
  | x :: l, k, s, h0, hs => by
    obtain ⟨s', h2, h3⟩ := hs k x s (by simp) h0
    show (body k x s).bind _ = _
    rw [h2]
    exact forL_go I hf l (k + 1) s' h3 fun j y s hy => hs j y s (List.mem_cons_of_mem _ hy)
/-- the values of a name -/
def valsB (n : Bs) (l : List S_api_Header) : List Bs := (l.filter (nmB n)).map fun x => x.Value
theorem vals_msg (n : Bs) (hn : ascB n = true) : ∀ (l : List S_api_Header) (k : Nat) (q : List Bs), (∀ x, x ∈ l → nmOK x) → q.length + l.length ≤ 1000 →
    forL (fun (k : Nat) (x : S_api_Header) (s : (List Bs)) => message_Values_L1 n k x s) (fun (s : (List Bs)) => message_Values_E1 s) k l q = some (q ++ valsB n l)
  | [], k, q, _, _ => by show some q = _; simp [valsB]
  | x :: l, k, q, h, hl => by
    simp only [List.length_cons] at hl
    have hst : message_Values_L1 n k x q = some (.inl (if nmB n x then q ++ [x.Value] else q)) := by
      unfold message_Values_L1 message_Values_J2
      rw [named_eq x n (h x (by simp)) hn]
      simp only [Option.bind_some]
      cases nmB n x
      · rfl
      · simp only [if_true]; rw [if_pos (by omega)]
    show (message_Values_L1 n k x q).bind _ = _
    rw [hst]
    have ih := vals_msg n hn l (k + 1) (if nmB n x then q ++ [x.Value] else q) (fun y hy => h y (List.mem_cons_of_mem _ hy)) (by split <;> first | omega | (simp only [List.length_append, List.length_cons, List.length_nil]; omega))
    refine Eq.trans ih ?_
    unfold valsB
    rw [List.filter_cons]
    cases nmB n x <;> simp
theorem vals_ref (n : Bs) (hn : ascB n = true ∧ n.length ≤ 100000) : ∀ (l : List S_api_Header) (k : Nat) (q : List Bs), (∀ x, x ∈ l → nmOK x) → q.length + l.length ≤ 1000 →
    forL (fun (k : Nat) (x : S_api_Header) (s : (List Bs)) => gateref2_Values_L1 n k x s) (fun (s : (List Bs)) => gateref2_Values_E1 s) k l q = some (q ++ valsB n l)
  | [], k, q, _, _ => by show some q = _; simp [valsB]
  | x :: l, k, q, h, hl => by
    simp only [List.length_cons] at hl
    have hst : gateref2_Values_L1 n k x q = some (.inl (if nmB n x then q ++ [x.Value] else q)) := by
      unfold gateref2_Values_L1 gateref2_Values_J2
      rw [alike_eq x.Name n (h x (by simp)) hn]
      simp only [Option.bind_some]
      show (if nmB n x = true then _ else _) = _
      cases nmB n x
      · rfl
      · simp only [if_true]; rw [if_pos (by omega)]
    show (gateref2_Values_L1 n k x q).bind _ = _
    rw [hst]
    have ih := vals_ref n hn l (k + 1) (if nmB n x then q ++ [x.Value] else q) (fun y hy => h y (List.mem_cons_of_mem _ hy)) (by split <;> first | omega | (simp only [List.length_append, List.length_cons, List.length_nil]; omega))
    refine Eq.trans ih ?_
    unfold valsB
    rw [List.filter_cons]
    cases nmB n x <;> simp
theorem values_eq (l : List S_api_Header) (n : Bs) (hl : l.length ≤ 1000) (h : ∀ x, x ∈ l → nmOK x) (hn : ascB n = true ∧ n.length ≤ 100000) : m_message_Values l n = some (valsB n l) ∧ m_gateref2_Values l n = some (valsB n l) := by
  constructor
  · unfold m_message_Values
    rw [if_pos (by omega), vals_msg n hn.1 l 0 [] h (by simpa using hl)]; rfl
  · unfold m_gateref2_Values
    rw [if_pos (by omega), vals_ref n hn l 0 [] h (by simpa using hl)]; rfl
/-- values of cookies -/
abbrev csL : Bs := [34, 44, 59, 92, 32]
def cvA (s : Bs) : Bool := s.any csL.contains
theorem any_asc (s : Bs) (hl : s.length ≤ 1000000) (ha : ascB s = true) : m_strings_ContainsAny s [34, 44, 59, 92, 32] = some (cvA s) ∧ m_strings_ContainsAny s [34, 44, 92, 32, 59] = some (cvA s) := by
  unfold m_strings_ContainsAny cvA
  rw [if_pos ⟨⟨by omega, by simp⟩, ha, rfl⟩, if_pos ⟨⟨by omega, by simp⟩, ha, rfl⟩, any_eq, any_eq]
  refine ⟨rfl, ?_⟩
  congr 2
  funext c
  have := u8_all (fun c => ([34, 44, 92, 32, 59] : Bs).contains c == csL.contains c) (by decide +kernel) c
  simpa using this
def cvB (s : Bs) : Bool := fldB s && !cvA s
theorem isCookieValue_eq (s : Bs) (hl : s.length ≤ 1000000) (ha : ascB s = true) : m_message_isCookieValue s = some (!cvA s) := by
  unfold m_message_isCookieValue
  rw [(any_asc s hl ha).1]; rfl
theorem fld_rg {s : Bs} (h : fldB s = true) : rgB s 32 126 = true := by
  unfold fldB at h
  simp only [Bool.and_eq_true] at h
  exact h.2.1
theorem cookieValue_eq (s : Bs) (hl : s.length ≤ 1000000) : m_gateref2_cookieValue s = some (cvB s) := by
  unfold m_gateref2_cookieValue gateref2_cookieValue_J1 cvB
  rw [field_eq, isField_eq s (by omega)]
  simp only [Option.bind_some]
  cases hf : fldB s
  · rfl
  · rw [if_pos rfl, (any_asc s hl (rg_asc (fld_rg hf))).2]; rfl
theorem dw_id (c : UInt8) : ∀ l : Bs, c ∉ l → l.dropWhile (· == c) = l
  | [], _ => rfl
  | x :: l, h => by
    rw [List.dropWhile_cons, if_neg]
    intro h1
    have : x = c := by simpa using h1
    exact h (by simp [this])
theorem trim_id (c : UInt8) (s : Bs) (h : c ∉ s) : trL c (trR c s) = s := by
  unfold trL trR
  rw [dw_id c s.reverse (by simpa using h), List.reverse_reverse, dw_id c s h]
theorem cvA_no {s : Bs} (h : cvA s = false) (c : UInt8) (hc : csL.contains c = true) : c ∉ s := by
  intro hm
  unfold cvA at h
  rw [List.any_eq_false] at h
  exact h c hm hc
theorem cv_vis (s : Bs) (hl : s.length ≤ 2000) (hr : rgB s 32 126 = true) : cvB s = !cvA s := by
  unfold cvB
  cases h : cvA s
  · have : fldB s = true := by
      unfold fldB
      rw [hr, trim_id 32 s (cvA_no h 32 (by decide))]
      simp; omega
    rw [this]; rfl
  · simp
theorem rg_mem {s t : Bs} {a b : Int} (h : rgB s a b = true) (hm : ∀ c, c ∈ t → c ∈ s) : rgB t a b = true := by
  unfold rgB at h ⊢
  exact List.all_eq_true.2 fun c hc => List.all_eq_true.1 h c (hm c hc)
theorem ckL2_same (k : Nat) (x : Bs) (q : List S_api_Pair) (hx : x.length ≤ 2000) (hr : rgB x 32 126 = true) (hq : q.length ≤ 100000000) :
    (∃ q', message_Cookies_L2 k x q = some (.inl q') ∧ gateref2_CookiesOf_L2 k x q = some (.inl q') ∧ q'.length ≤ q.length + 1) ∨ (message_Cookies_L2 k x q = some (.inr (.inr ([], 9))) ∧ gateref2_CookiesOf_L2 k x q = some (.inr (.inr ([], 9)))) := by
  have ht := trim_mem 32 x
  unfold message_Cookies_L2 gateref2_CookiesOf_L2
  rw [trim_eq 32 (by decide) x (by omega)]
  simp only [Option.bind_some]
  generalize trL 32 (trR 32 x) = y at *
  by_cases h0 : y = []
  · rw [if_pos (by simpa using h0), if_pos (by simpa using h0)]
    exact .inl ⟨q, rfl, rfl, by omega⟩
  rw [if_neg (by simpa using h0), if_neg (by simpa using h0)]
  unfold m_strings_Cut
  rw [if_pos (by omega)]
  simp only [Option.bind_some]
  obtain ⟨c1, c2, c3, c4⟩ := cut1_len y 61
  generalize Lib.cut y [61] = c at *
  have hT : message_Cookies_J4 q c true = some (.inr (.inr ([], 9))) ∧ gateref2_CookiesOf_J4 q c true = some (.inr (.inr ([], 9))) := ⟨rfl, rfl⟩
  have hF : message_Cookies_J4 q c false = some (.inl (q ++ [(S_api_Pair.mk c.1 c.2.1)])) ∧ gateref2_CookiesOf_J4 q c false = some (.inl (q ++ [(S_api_Pair.mk c.1 c.2.1)])) := by
    unfold message_Cookies_J4 gateref2_CookiesOf_J4 message_Cookies_J3 gateref2_CookiesOf_J3
    rw [if_neg (by simp), if_pos (by omega)]
    exact ⟨rfl, rfl⟩
  cases c.2.2
  · simp only [Bool.not_false, if_true]
    exact .inr hT
  · have hv : rgB c.2.1 32 126 = true := rg_mem hr fun d hd => ht.2 d (c4 d hd)
    rw [isToken_eq _ (by omega), token_eq _ (by omega), isCookieValue_eq _ (by omega) (rg_asc hv), cookieValue_eq _ (by omega), cv_vis _ (by omega) hv]
    simp only [Bool.not_true, Bool.false_eq_true, if_false, Option.bind_some]
    cases tokB c.1
    · simp only [Bool.not_false, if_true]
      exact .inr hT
    · simp only [Bool.not_true, Bool.false_eq_true, if_false]
      cases cvA c.2.1
      · simp only [Bool.not_false, Bool.not_true]
        exact .inl ⟨_, hF.1, hF.2, by simp⟩
      · simp only [Bool.not_false, Bool.not_true]
        exact .inr hT
theorem ckL1_same (k : Nat) (x : Bs) (q : List S_api_Pair) (hx : x.length ≤ 2000) (hr : rgB x 32 126 = true) (hq : q.length ≤ 10000000) :
    ∃ r, message_Cookies_L1 k x q = some r ∧ gateref2_CookiesOf_L1 k x q = some r ∧ rd (fun q' : List S_api_Pair => q'.length ≤ q.length + 2100) (fun r : List S_api_Pair × Int => r.1.length ≤ 1000000) r := by
  have h2 := spl_len 59 x
  unfold message_Cookies_L1 gateref2_CookiesOf_L1 m_strings_Split
  rw [if_pos ⟨by omega, by simp⟩, splitL_one]
  simp only [Option.bind_some]
  rw [if_pos (by omega), if_pos (by omega)]
  refine forL_both (fun j (q' : List S_api_Pair) => q'.length ≤ q.length + j) _ 0 q (by omega) ?_ ?_
  · intro j y q' _ hy hi
    have hp := spl_piece 59 x y (List.mem_of_getElem? hy)
    have hm := spl_mem 59 x y (List.mem_of_getElem? hy)
    have hjl : j < (spl 59 x).length := by
      have := List.getElem?_eq_some_iff.1 hy
      obtain ⟨h, _⟩ := this
      omega
    rcases ckL2_same j y q' (by omega) (rg_mem hr hm) (by omega) with ⟨q'', a, b, c⟩ | ⟨a, b⟩
    · exact ⟨_, a, b, by show q''.length ≤ _; omega⟩
    · exact ⟨_, a, b, by show (0 : Nat) ≤ 1000000; omega⟩
  · intro q' hi
    refine ⟨.inl q', rfl, rfl, ?_⟩
    show q'.length ≤ _
    omega
theorem cookies_same (l : List S_api_Header) (h1 : hdsP l) (h2 : ∀ x, x ∈ l → nmOK x) : ∃ r, m_message_Cookies l = some r ∧ m_gateref2_CookiesOf l = some r ∧ r.1.length ≤ 1000000 := by
  have he := headers_eq l h1
  have hv := values_eq l ckL h1.1 h2 ⟨rfl, by decide⟩
  unfold m_message_Cookies m_gateref2_CookiesOf
  rw [he.1, he.2]
  simp only [Option.bind_some]
  by_cases h0 : hdsE l = 0
  · rw [if_neg (by simpa using h0), if_neg (by simpa using h0)]
    have hcnt := hds_cnt h0
    have hok := hds_ok h0
    have hvl : (valsB ckL l).length ≤ 50 := by
      unfold valsB
      rw [List.length_map]
      have := (List.filter_sublist (p := nmB ckL) (l := l)).length_le
      omega
    show ∃ r, (m_message_Values l ckL).bind _ = _ ∧ (m_gateref2_Values l ckL).bind _ = _ ∧ _
    rw [hv.1, hv.2]
    simp only [Option.bind_some]
    rw [if_pos (by omega), if_pos (by omega)]
    refine forL_both (fun j (q' : List S_api_Pair) => q'.length ≤ 2100 * j) _ 0 [] (by simp) ?_ ?_
    · intro j v q' _ hj hi
      have hm := List.mem_of_getElem? hj
      have hjl : j < (valsB ckL l).length := by
        obtain ⟨h, _⟩ := List.getElem?_eq_some_iff.1 hj
        omega
      unfold valsB at hm
      obtain ⟨x, hx, hxv⟩ := List.mem_map.1 hm
      have hf := (hok x (List.mem_filter.1 hx).1).2
      rw [hxv] at hf
      obtain ⟨r, a, b, c⟩ := ckL1_same j v q' (fld_len hf) (fld_rg hf) (by omega)
      refine ⟨r, a, b, ?_⟩
      cases r with
      | inl q'' =>
        show q''.length ≤ 2100 * (j + 1)
        have : q''.length ≤ q'.length + 2100 := c
        omega
      | inr r => exact c
    · intro q' hi
      unfold message_Cookies_E1 gateref2_CookiesOf_E1
      by_cases h : 100 < (q'.length : Int)
      · rw [if_pos (by simpa using h)]
        exact ⟨_, rfl, rfl, by simp⟩
      · rw [if_neg (by simpa using h)]
        exact ⟨_, rfl, rfl, by simp only; omega⟩
  · rw [if_pos (by simpa using h0), if_pos (by simpa using h0)]
    exact ⟨_, rfl, rfl, by simp⟩
/-- a cookie as a response sets it -/
def pDom (c : S_api_Cookie) : List Bs := if c.Domain = [] then [] else [[68, 111, 109, 97, 105, 110, 61] ++ c.Domain]
def pPath (c : S_api_Cookie) : List Bs := if c.Path = [] then [] else [[80, 97, 116, 104, 61] ++ c.Path]
def pAge (c : S_api_Cookie) : List Bs := if 0 ≤ c.MaxAge then [[77, 97, 120, 45, 65, 103, 101, 61] ++ Lib.itoa c.MaxAge] else []
def pSec (c : S_api_Cookie) : List Bs := if c.Secure then [[83, 101, 99, 117, 114, 101]] else []
def pHid (c : S_api_Cookie) : List Bs := if c.Hidden then [[72, 116, 116, 112, 79, 110, 108, 121]] else []
def headC (c : S_api_Cookie) : Bs := (c.Name ++ [61]) ++ c.Value
def restC (c : S_api_Cookie) : List Bs := pDom c ++ (pPath c ++ (pAge c ++ (pSec c ++ pHid c)))
def textC (c : S_api_Cookie) : Bs := Lib.join (headC c :: restC c) scL
theorem join_snoc2 (l : List Bs) (x : Bs) (h : l ≠ []) : Lib.join (l ++ [x]) scL = Lib.join l scL ++ (scL ++ x) := by
  cases l with
  | nil => exact absurd rfl h
  | cons a l =>
    rw [List.cons_append, Lib.join_cons, Lib.join_cons]
    simp [Lib.joinTail]
def jl (k n : Nat) (l : List Bs) : Prop := l ≠ [] ∧ l.length ≤ k ∧ (Lib.join l scL).length ≤ n
theorem jl_one {k n m : Nat} {l : List Bs} (h : jl k n l) (x : Bs) (hx : x.length ≤ m) : jl (k + 1) (n + m + 2) (l ++ [x]) := by
  refine ⟨by simp, by have := h.2.1; simp; omega, ?_⟩
  rw [join_snoc2 l x h.1]
  have := h.2.2
  simp; omega
theorem jl_mono {k n k' n' : Nat} {l : List Bs} (h : jl k n l) (h1 : k ≤ k') (h2 : n ≤ n') : jl k' n' l := ⟨h.1, by have := h.2.1; omega, by have := h.2.2; omega⟩
theorem itoa_nat {n : Int} (h : 0 ≤ n) : Lib.itoa n = Lib.decDigits n.toNat := by
  unfold Lib.itoa
  rw [if_neg (by omega)]
theorem itoa_le {n : Int} (h : 0 ≤ n) (h2 : n < 100000000000000000) : (Lib.itoa n).length ≤ 17 := by
  rw [itoa_nat h]
  exact dec_len 16 _ (by omega)
section
variable (c : S_api_Cookie)
def ckP (c : S_api_Cookie) : Prop := (c.Name.length ≤ 100000 ∧ c.Value.length ≤ 100000 ∧ c.Domain.length ≤ 100000 ∧ c.Path.length ≤ 100000) ∧ (ascB c.Value = true ∧ ascB c.Domain = true) ∧ (-100000000000000000 < c.MaxAge ∧ c.MaxAge < 100000000000000000)
/-- the reference's line -/
theorem line4 (l : List Bs) (h : jl 90 900000 l) : gateref2_CookieLine_J4 c l = some (Lib.join (l ++ pHid c) scL) := by
  unfold gateref2_CookieLine_J4 gateref2_CookieLine_J5 pHid m_strings_Join
  have h1 := h.2.1
  cases c.Hidden
  · have h2 : (Lib.join l [59, 32]).length ≤ 900000 := h.2.2
    simp only [Bool.false_eq_true, if_false, List.append_nil]
    rw [if_pos ⟨by omega, by omega⟩]; rfl
  · have h3 := jl_one (m := 10) h [72, 116, 116, 112, 79, 110, 108, 121] (by simp)
    have h4 := h3.2.1
    have h5 : (Lib.join (l ++ [[72, 116, 116, 112, 79, 110, 108, 121]]) [59, 32]).length ≤ 900012 := h3.2.2
    simp only [if_true]
    rw [if_pos (by omega), if_pos ⟨by omega, by omega⟩]; rfl
theorem line3 (l : List Bs) (h : jl 80 800000 l) : gateref2_CookieLine_J3 c l = some (Lib.join (l ++ (pSec c ++ pHid c)) scL) := by
  unfold gateref2_CookieLine_J3 pSec
  have h1 := h.2.1
  cases c.Secure
  · simp only [Bool.false_eq_true, if_false, List.nil_append]
    exact line4 c l (jl_mono h (by omega) (by omega))
  · have h3 := jl_one (m := 10) h [83, 101, 99, 117, 114, 101] (by simp)
    simp only [if_true]
    rw [if_pos (by omega), line4 c _ (jl_mono h3 (by omega) (by omega)), List.append_assoc]
theorem line2 (hc : ckP c) (l : List Bs) (h : jl 70 700000 l) : gateref2_CookieLine_J2 c l = some (Lib.join (l ++ (pAge c ++ (pSec c ++ pHid c))) scL) := by
  unfold gateref2_CookieLine_J2 pAge m_strconv_Itoa
  by_cases h0 : 0 ≤ c.MaxAge
  · have hi := itoa_le h0 hc.2.2.2
    have h3 := jl_one (m := 30) h ([77, 97, 120, 45, 65, 103, 101, 61] ++ Lib.itoa c.MaxAge) (by simp; omega)
    have h1 := h.2.1
    have h9 := hc.2.2
    rw [decide_eq_true h0, if_pos h0, if_pos (show -9223372036854775808 ≤ c.MaxAge ∧ c.MaxAge ≤ 9223372036854775807 by omega)]
    simp only [if_true, Option.bind_some]
    rw [if_pos (by simp; omega), if_pos (by omega), line3 c _ (jl_mono h3 (by omega) (by omega)), List.append_assoc]
  · rw [decide_eq_false h0, if_neg h0]
    simp only [Bool.false_eq_true, if_false, List.nil_append]
    exact line3 c l (jl_mono h (by omega) (by omega))
theorem line1 (hc : ckP c) (l : List Bs) (h : jl 60 500000 l) : gateref2_CookieLine_J1 c l = some (Lib.join (l ++ (pPath c ++ (pAge c ++ (pSec c ++ pHid c)))) scL) := by
  unfold gateref2_CookieLine_J1 pPath
  by_cases h0 : c.Path = []
  · rw [show decide (c.Path ≠ []) = false by simpa using h0, if_pos h0]
    simp only [Bool.false_eq_true, if_false, List.nil_append]
    exact line2 c hc l (jl_mono h (by omega) (by omega))
  · have hp := hc.1.2.2.2
    have h3 := jl_one (m := 100005) h ([80, 97, 116, 104, 61] ++ c.Path) (by simp; omega)
    have h1 := h.2.1
    rw [show decide (c.Path ≠ []) = true by simpa using h0, if_neg h0]
    simp only [if_true]
    rw [if_pos (by simp; omega), if_pos (by omega), line2 c hc _ (jl_mono h3 (by omega) (by omega)), List.append_assoc]
theorem jl_head (hc : ckP c) : jl 1 200001 [headC c] := by
  refine ⟨by simp, by simp, ?_⟩
  have h1 := hc.1
  rw [Lib.join_one]
  unfold headC
  simp; omega
theorem cookieLine_eq (hc : ckP c) : m_gateref2_CookieLine c = some (textC c) := by
  have hj := jl_head c hc
  have h1 := hc.1
  unfold m_gateref2_CookieLine textC restC pDom
  rw [if_pos (by simp; omega), if_pos (by simp; omega)]
  by_cases h0 : c.Domain = []
  · rw [show decide (c.Domain ≠ []) = false by simpa using h0, if_pos h0]
    simp only [Bool.false_eq_true, if_false, List.nil_append]
    exact line1 c hc [headC c] (jl_mono hj (by omega) (by omega))
  · have h3 := jl_one (m := 100007) hj ([68, 111, 109, 97, 105, 110, 61] ++ c.Domain) (by simp; omega)
    rw [show decide (c.Domain ≠ []) = true by simpa using h0, if_neg h0]
    simp only [if_true]
    rw [if_pos (by simp; omega), if_pos (by simp)]
    have := line1 c hc ([headC c] ++ [[68, 111, 109, 97, 105, 110, 61] ++ c.Domain]) (jl_mono h3 (by omega) (by omega))
    refine Eq.trans this ?_
    rw [List.append_assoc]; rfl
/-- the program's text -/
theorem text7 (l : List Bs) (h : jl 90 900000 l) : message_CookieText_J7 c (Lib.join l scL) = some (Lib.join (l ++ pHid c) scL, 0) := by
  have h2 := h.2.2
  unfold message_CookieText_J7 message_CookieText_J8 pHid
  cases c.Hidden
  · simp only [Bool.false_eq_true, if_false, List.append_nil]
  · simp only [if_true]
    rw [if_pos (by simp only [List.length_cons, List.length_nil]; omega), join_snoc2 l _ h.1]
    rfl
theorem text6 (l : List Bs) (h : jl 80 800000 l) : message_CookieText_J6 c (Lib.join l scL) = some (Lib.join (l ++ (pSec c ++ pHid c)) scL, 0) := by
  have h2 := h.2.2
  unfold message_CookieText_J6 pSec
  cases c.Secure
  · simp only [Bool.false_eq_true, if_false, List.nil_append]
    exact text7 c l (jl_mono h (by omega) (by omega))
  · have h3 := jl_one (m := 10) h [83, 101, 99, 117, 114, 101] (by simp)
    simp only [if_true]
    rw [if_pos (by simp only [List.length_cons, List.length_nil]; omega), ← List.append_assoc, ← text7 c _ (jl_mono h3 (by omega) (by omega)), join_snoc2 l _ h.1]
    rfl
theorem text5 (hc : ckP c) (l : List Bs) (h : jl 70 700000 l) : message_CookieText_J5 c (Lib.join l scL) = some (Lib.join (l ++ (pAge c ++ (pSec c ++ pHid c))) scL, 0) := by
  have h2 := h.2.2
  unfold message_CookieText_J5 pAge m_strconv_Itoa
  by_cases h0 : 0 ≤ c.MaxAge
  · have hi := itoa_le h0 hc.2.2.2
    have h3 := jl_one (m := 30) h ([77, 97, 120, 45, 65, 103, 101, 61] ++ Lib.itoa c.MaxAge) (by simp; omega)
    have h9 := hc.2.2
    rw [decide_eq_true h0, if_pos h0, if_pos (show -9223372036854775808 ≤ c.MaxAge ∧ c.MaxAge ≤ 9223372036854775807 by omega)]
    simp only [if_true, Option.bind_some]
    rw [if_pos (by simp only [List.length_cons, List.length_nil]; omega), if_pos (by simp only [List.length_append, List.length_cons, List.length_nil]; omega), show Lib.join (l ++ ([[77, 97, 120, 45, 65, 103, 101, 61] ++ Lib.itoa c.MaxAge] ++ (pSec c ++ pHid c))) scL = Lib.join (l ++ [[77, 97, 120, 45, 65, 103, 101, 61] ++ Lib.itoa c.MaxAge] ++ (pSec c ++ pHid c)) scL by rw [List.append_assoc], ← text6 c _ (jl_mono h3 (by omega) (by omega)), join_snoc2 l _ h.1]
    rfl
  · rw [decide_eq_false h0, if_neg h0]
    simp only [Bool.false_eq_true, if_false, List.nil_append]
    exact text6 c l (jl_mono h (by omega) (by omega))
theorem text4 (hc : ckP c) (l : List Bs) (h : jl 60 500000 l) : message_CookieText_J4 c (Lib.join l scL) = some (Lib.join (l ++ (pPath c ++ (pAge c ++ (pSec c ++ pHid c)))) scL, 0) := by
  have h2 := h.2.2
  unfold message_CookieText_J4 pPath
  by_cases h0 : c.Path = []
  · rw [show decide (c.Path ≠ []) = false by simpa using h0, if_pos h0]
    simp only [Bool.false_eq_true, if_false, List.nil_append]
    exact text5 c hc l (jl_mono h (by omega) (by omega))
  · have hp := hc.1.2.2.2
    have h3 := jl_one (m := 100005) h ([80, 97, 116, 104, 61] ++ c.Path) (by simp; omega)
    rw [show decide (c.Path ≠ []) = true by simpa using h0, if_neg h0]
    simp only [if_true]
    rw [if_pos (by simp only [List.length_cons, List.length_nil]; omega), if_pos (by simp only [List.length_append, List.length_cons, List.length_nil]; omega), show Lib.join (l ++ ([[80, 97, 116, 104, 61] ++ c.Path] ++ (pAge c ++ (pSec c ++ pHid c)))) scL = Lib.join (l ++ [[80, 97, 116, 104, 61] ++ c.Path] ++ (pAge c ++ (pSec c ++ pHid c))) scL by rw [List.append_assoc], ← text5 c hc _ (jl_mono h3 (by omega) (by omega)), join_snoc2 l _ h.1]
    rfl
theorem text3 (hc : ckP c) : message_CookieText_J3 c false = some (if outP c.MaxAge (-1) 1000000000000000 then ([], 1) else (textC c, 0)) := by
  have hj := jl_head c hc
  have h1 := hc.1
  unfold message_CookieText_J3
  rw [out_eq, if_neg (by simp)]
  simp only [Option.bind_some]
  cases outP c.MaxAge (-1) 1000000000000000
  · simp only [Bool.false_eq_true, if_false]
    rw [if_pos (by simp; omega), if_pos (by simp; omega)]
    unfold textC restC pDom
    by_cases h0 : c.Domain = []
    · rw [show decide (c.Domain ≠ []) = false by simpa using h0, if_pos h0]
      simp only [Bool.false_eq_true, if_false, List.nil_append]
      have := text4 c hc [headC c] (jl_mono hj (by omega) (by omega))
      rw [Lib.join_one] at this
      exact this
    · have h3 := jl_one (m := 100007) hj ([68, 111, 109, 97, 105, 110, 61] ++ c.Domain) (by simp; omega)
      rw [show decide (c.Domain ≠ []) = true by simpa using h0, if_neg h0]
      simp only [if_true]
      rw [if_pos (by simp; omega), if_pos (by simp; omega)]
      have := text4 c hc ([headC c] ++ [[68, 111, 109, 97, 105, 110, 61] ++ c.Domain]) (jl_mono h3 (by omega) (by omega))
      rw [join_snoc2 [headC c] _ (by simp), Lib.join_one, List.append_assoc] at this
      exact this
  · simp
/-- what is wrong with a cookie -/
def cfault (c : S_api_Cookie) (r : Bs × Int) : Int :=
  if tokB c.Name then (if cvB c.Value then (if c.Domain ≠ [] ∧ dbB c.Domain r = true then 3 else if c.Path ≠ [] ∧ (pthB c.Path && !Lib.contains c.Path [59]) = false then 3 else if outP c.MaxAge (-1) 1000000000000000 then 1 else 0) else 3) else 5
theorem cookieFault_eq (h : ckP c) (q : Bs × Int) (hq : m_gateref2_HostOf c.Domain = some q) : m_gateref2_CookieFault c = some (cfault c q) := by
  obtain ⟨⟨h1, h2, h3, h4⟩, h5, h6⟩ := h
  have hJT : gateref2_CookieFault_J1 c true = some 3 := rfl
  have hJF : gateref2_CookieFault_J1 c false = some (if outP c.MaxAge (-1) 1000000000000000 then 1 else 0) := by
    unfold gateref2_CookieFault_J1
    rw [in_eq, if_neg (by simp)]
    simp only [Option.bind_some, Bool.not_not]
    cases outP c.MaxAge (-1) 1000000000000000 <;> rfl
  have hP : (if decide (c.Path ≠ []) then ((m_gateref2_pathForm c.Path).bind fun (r23 : (Bool)) => if !r23 then (gateref2_CookieFault_J1 c true) else ((m_strings_Contains c.Path [59]).bind fun (r27 : (Bool)) => gateref2_CookieFault_J1 c r27)) else (gateref2_CookieFault_J1 c false)) = some (if c.Path ≠ [] ∧ (pthB c.Path && !Lib.contains c.Path [59]) = false then 3 else if outP c.MaxAge (-1) 1000000000000000 then 1 else 0) := by
    rw [pathForm_eq _ (by omega)]
    unfold m_strings_Contains
    rw [if_pos (show c.Path.length ≤ 1000000000 by omega)]
    simp only [Option.bind_some]
    by_cases h0 : c.Path = []
    · rw [if_neg (by simpa using h0), if_neg (by simp [h0]), hJF]
    · rw [if_pos (by simpa using h0)]
      cases pthB c.Path
      · simp only [Bool.not_false, if_true]
        rw [if_pos ⟨h0, by simp⟩, hJT]
      · simp only [Bool.not_true, Bool.false_eq_true, if_false, Bool.true_and]
        cases Lib.contains c.Path [59]
        · rw [if_neg (by simp), hJF]
        · rw [if_pos ⟨h0, by simp⟩, hJT]
  unfold m_gateref2_CookieFault cfault
  rw [token_eq _ (by omega), hq, cookieValue_eq _ (by omega)]
  simp only [Option.bind_some]
  cases tokB c.Name
  · rfl
  simp only [Bool.not_true, Bool.false_eq_true, if_false, if_true]
  cases cvB c.Value
  · simp only [Bool.not_false, if_true, Bool.false_eq_true, if_false]
    exact hJT
  simp only [Bool.not_true, Bool.false_eq_true, if_false, if_true]
  by_cases h0 : c.Domain = []
  · rw [if_neg (show ¬ decide (c.Domain ≠ []) = true by simpa using h0), if_neg (show ¬ (c.Domain ≠ [] ∧ dbB c.Domain q = true) from fun hh => hh.1 h0)]
    exact hP
  rw [if_pos (show decide (c.Domain ≠ []) = true by simpa using h0)]
  by_cases e1 : q.2 = 0
  · rw [if_neg (show ¬ decide (q.2 ≠ 0) = true by simpa using e1)]
    by_cases e2 : q.1 = c.Domain
    · rw [if_neg (show ¬ decide (q.1 ≠ c.Domain) = true by simpa using e2)]
      have hcon : m_strings_Contains q.1 [58] = some (Lib.contains q.1 [58]) := by
        unfold m_strings_Contains
        rw [if_pos (show q.1.length ≤ 1000000000 by rw [e2]; omega)]
      rw [hcon]
      simp only [Option.bind_some]
      have hdb : dbB c.Domain q = Lib.contains q.1 [58] := by unfold dbB; rw [e1, e2]; simp
      rw [hdb]
      cases hcc : Lib.contains q.1 [58]
      · rw [if_neg (by simp), if_neg (show ¬ (c.Domain ≠ [] ∧ false = true) from fun hh => by cases hh.2)]
        exact hP
      · rw [if_pos rfl, if_pos (show c.Domain ≠ [] ∧ true = true from ⟨h0, rfl⟩)]
        exact hJT
    · rw [if_pos (show decide (q.1 ≠ c.Domain) = true by simpa using e2), if_pos (show c.Domain ≠ [] ∧ dbB c.Domain q = true from ⟨h0, by unfold dbB; simp [e2]⟩)]
      exact hJT
  · rw [if_pos (show decide (q.2 ≠ 0) = true by simpa using e1), if_pos (show c.Domain ≠ [] ∧ dbB c.Domain q = true from ⟨h0, by unfold dbB; simp [e1]⟩)]
    exact hJT
theorem cookieText_eq (h : ckP c) (q : Bs × Int) (hq : m_message_NormalHost c.Domain = some q) : m_message_CookieText c = some (if cfault c q = 0 then (textC c, 0) else ([], cfault c q)) := by
  have h' := h
  obtain ⟨⟨h1, h2, h3, h4⟩, h5, h6⟩ := h
  have hJT : message_CookieText_J3 c true = some ([], 3) := rfl
  have hJF := text3 c h'
  have hP : message_CookieText_J2 c false = some (if c.Path ≠ [] ∧ (pthB c.Path && !Lib.contains c.Path [59]) = false then ([], 3) else if outP c.MaxAge (-1) 1000000000000000 then ([], 1) else (textC c, 0)) := by
    unfold message_CookieText_J2 m_strings_Contains
    rw [pathFault_eq _ (by omega), if_neg (by simp)]
    rw [if_pos (show c.Path.length ≤ 1000000000 by omega)]
    simp only [Option.bind_some]
    by_cases h0 : c.Path = []
    · rw [if_neg (by simpa using h0), if_neg (by simp [h0]), hJF]
    · rw [if_pos (by simpa using h0)]
      cases pthB c.Path
      · rw [if_pos (by simp), if_pos ⟨h0, by simp⟩, hJT]
      · rw [if_neg (by simp)]
        simp only [Bool.true_and]
        cases Lib.contains c.Path [59]
        · rw [if_neg (by simp), hJF]
        · rw [if_pos ⟨h0, by simp⟩, hJT]
  have hP2 : message_CookieText_J2 c true = some ([], 3) := rfl
  have fin : ∀ (b1 : Prop) [Decidable b1], (if b1 then (([] : Bs), (3 : Int)) else if outP c.MaxAge (-1) 1000000000000000 then ([], 1) else (textC c, 0)) = if (if b1 then (3 : Int) else if outP c.MaxAge (-1) 1000000000000000 then 1 else 0) = 0 then (textC c, 0) else ([], if b1 then (3 : Int) else if outP c.MaxAge (-1) 1000000000000000 then 1 else 0) := by
    intro b1 _
    by_cases hb : b1
    · simp [hb]
    · simp only [if_neg hb]
      cases outP c.MaxAge (-1) 1000000000000000 <;> simp
  unfold m_message_CookieText cfault
  rw [isToken_eq _ (by omega), hq, isCookieValue_eq _ (by omega) h5.1, isField_eq _ (by omega)]
  simp only [Option.bind_some]
  cases tokB c.Name
  · rfl
  simp only [Bool.not_true, Bool.false_eq_true, if_false, if_true]
  have hcv : cvB c.Value = (fldB c.Value && !cvA c.Value) := rfl
  rw [hcv]
  have hT1 : message_CookieText_J1 c q true = some ([], 3) := rfl
  cases cvA c.Value
  · simp only [Bool.not_false, Bool.not_true, Bool.false_eq_true, if_false, Bool.and_true]
    cases fldB c.Value
    · simp only [Bool.not_false, Bool.false_eq_true, if_false]
      rw [hT1]; rfl
    · simp only [Bool.not_true, if_true]
      unfold message_CookieText_J1
      rw [if_neg (by simp)]
      by_cases h0 : c.Domain = []
      · rw [if_neg (show ¬ decide (c.Domain ≠ []) = true by simpa using h0), if_neg (show ¬ (c.Domain ≠ [] ∧ dbB c.Domain q = true) from fun hh => hh.1 h0), hP, fin]
      rw [if_pos (show decide (c.Domain ≠ []) = true by simpa using h0)]
      by_cases e1 : q.2 = 0
      · rw [if_neg (show ¬ decide (q.2 ≠ 0) = true by simpa using e1)]
        by_cases e2 : q.1 = c.Domain
        · rw [if_neg (show ¬ decide (q.1 ≠ c.Domain) = true by simpa using e2)]
          have hcon : m_strings_Contains q.1 [58] = some (Lib.contains q.1 [58]) := by
            unfold m_strings_Contains
            rw [if_pos (show q.1.length ≤ 1000000000 by rw [e2]; omega)]
          rw [hcon]
          simp only [Option.bind_some]
          have hdb : dbB c.Domain q = Lib.contains q.1 [58] := by unfold dbB; rw [e1, e2]; simp
          rw [hdb]
          cases hcc : Lib.contains q.1 [58]
          · rw [if_neg (show ¬ (c.Domain ≠ [] ∧ false = true) from fun hh => by cases hh.2), hP, fin]
          · rw [if_pos (show c.Domain ≠ [] ∧ true = true from ⟨h0, rfl⟩), hP2]
            rfl
        · rw [if_pos (show decide (q.1 ≠ c.Domain) = true by simpa using e2), if_pos (show c.Domain ≠ [] ∧ dbB c.Domain q = true from ⟨h0, by unfold dbB; simp [e2]⟩), hP2]
          rfl
      · rw [if_pos (show decide (q.2 ≠ 0) = true by simpa using e1), if_pos (show c.Domain ≠ [] ∧ dbB c.Domain q = true from ⟨h0, by unfold dbB; simp [e1]⟩), hP2]
        rfl
  · simp only [Bool.not_true, Bool.not_false, if_true, Bool.and_false, Bool.false_eq_true, if_false]
    rw [hT1]; rfl
end
/-- a cookie without fault -/
def goodC (c : S_api_Cookie) : Prop := tokB c.Name = true ∧ cvB c.Value = true ∧ (59 : UInt8) ∉ c.Domain ∧ (59 : UInt8) ∉ c.Path ∧ c.MaxAge ≤ 1000000000000000
theorem text_same (c : S_api_Cookie) (h : ckP c) : ∃ f, m_gateref2_CookieFault c = some f ∧ m_message_CookieText c = some (if f = 0 then (textC c, 0) else ([], f)) ∧ (f = 0 → goodC c) := by
  obtain ⟨r, q, r1, q1, e1, _, e2⟩ := domain_same c.Domain h.1.2.2.1 h.2.1.2
  have e : cfault c r = cfault c q := by unfold cfault; rw [e1]
  refine ⟨cfault c q, cookieFault_eq c h q q1, ?_, fun h0 => ?_⟩
  · rw [cookieText_eq c h r r1, e]
  · unfold cfault at h0
    cases ht : tokB c.Name
    · rw [ht] at h0; simp at h0
    rw [ht] at h0
    simp only [if_true] at h0
    cases hv : cvB c.Value
    · rw [hv] at h0; simp at h0
    rw [hv] at h0
    simp only [if_true] at h0
    split at h0
    · simp at h0
    rename_i hd
    split at h0
    · simp at h0
    rename_i hp
    refine ⟨ht, hv, ?_, ?_, ?_⟩
    · by_cases hd0 : c.Domain = []
      · rw [hd0]; simp
      · refine e2 ?_
        cases hx : dbB c.Domain q
        · rfl
        · exact absurd ⟨hd0, hx⟩ hd
    · by_cases hp0 : c.Path = []
      · rw [hp0]; simp
      · intro hm
        refine hp ⟨hp0, ?_⟩
        rw [has_eq]
        have : c.Path.contains 59 = true := by simpa using hm
        rw [this]; simp
    · cases ho : outP c.MaxAge (-1) 1000000000000000
      · rw [outP_in] at ho
        simp at ho
        omega
      · rw [ho] at h0; simp at h0
theorem dec_no59 (n : Nat) : (59 : UInt8) ∉ Lib.decDigits n := by
  intro h
  have := List.all_eq_true.1 (dec_all n) 59 h
  revert this; decide
theorem no59_tok {s : Bs} (h : tokB s = true) : (59 : UInt8) ∉ s := by
  intro hm
  unfold tokB at h
  simp only [Bool.and_eq_true] at h
  have := List.all_eq_true.1 h.1 59 hm
  revert this; decide
theorem no59_cv {s : Bs} (h : cvB s = true) : (59 : UInt8) ∉ s := by
  unfold cvB at h
  simp only [Bool.and_eq_true, Bool.not_eq_true'] at h
  exact cvA_no h.2 59 (by decide)
theorem parts_no59 (c : S_api_Cookie) (h : goodC c) : ∀ p, p ∈ headC c :: restC c → (59 : UInt8) ∉ p := by
  obtain ⟨h1, h2, h3, h4, h5⟩ := h
  intro p hp
  rcases List.mem_cons.1 hp with rfl | hp
  · unfold headC
    have := no59_tok h1
    have := no59_cv h2
    simp_all
  unfold restC at hp
  simp only [List.mem_append] at hp
  rcases hp with hp | hp | hp | hp | hp
  · unfold pDom at hp
    split at hp
    · cases hp
    · rw [List.mem_singleton.1 hp]; simpa using h3
  · unfold pPath at hp
    split at hp
    · cases hp
    · rw [List.mem_singleton.1 hp]; simpa using h4
  · unfold pAge at hp
    split at hp
    · rename_i h0
      rw [List.mem_singleton.1 hp, itoa_nat h0]
      simpa using dec_no59 _
    · cases hp
  · unfold pSec at hp
    split at hp
    · rw [List.mem_singleton.1 hp]; decide
    · cases hp
  · unfold pHid at hp
    split at hp
    · rw [List.mem_singleton.1 hp]; decide
    · cases hp
/-- an age that is none -/
abbrev ageL : Bs := [77, 97, 120, 45, 65, 103, 101]
def isBad (x : Bs) : Bool := decide ((Lib.cut x [61]).1 = ageL) && !okN 16 (Lib.cut x [61]).2.1
theorem rest_good (c : S_api_Cookie) (h : goodC c) : (restC c).any isBad = false := by
  obtain ⟨h1, h2, h3, h4, h5⟩ := h
  rw [List.any_eq_false]
  intro p hp
  unfold restC at hp
  simp only [List.mem_append] at hp
  have hk : ∀ (k v : Bs), (61 : UInt8) ∉ k → k ≠ ageL → isBad (k ++ 61 :: v) = false := fun k v hk hn => by
    unfold isBad
    rw [cut_app 61 k v hk]
    simp [hn]
  rcases hp with hp | hp | hp | hp | hp
  · unfold pDom at hp
    split at hp
    · cases hp
    · rw [List.mem_singleton.1 hp]
      have := hk [68, 111, 109, 97, 105, 110] c.Domain (by decide) (by decide)
      simpa using this
  · unfold pPath at hp
    split at hp
    · cases hp
    · rw [List.mem_singleton.1 hp]
      have := hk [80, 97, 116, 104] c.Path (by decide) (by decide)
      simpa using this
  · unfold pAge at hp
    split at hp
    · rename_i h0
      rw [List.mem_singleton.1 hp]
      have e : ([77, 97, 120, 45, 65, 103, 101, 61] : Bs) ++ Lib.itoa c.MaxAge = ageL ++ 61 :: Lib.itoa c.MaxAge := rfl
      rw [e]
      unfold isBad
      rw [cut_app 61 ageL _ (by decide)]
      obtain ⟨n, hn⟩ : ∃ n : Nat, c.MaxAge = (n : Int) := ⟨c.MaxAge.toNat, by omega⟩
      rw [hn]
      have := (okN_itoa n (by omega)).1
      simp [this]
    · cases hp
  · unfold pSec at hp
    split at hp
    · rw [List.mem_singleton.1 hp]; decide +kernel
    · cases hp
  · unfold pHid at hp
    split at hp
    · rw [List.mem_singleton.1 hp]; decide +kernel
    · cases hp
end Go.Proofs.YthodoodnkohdaaaGreatDoor
