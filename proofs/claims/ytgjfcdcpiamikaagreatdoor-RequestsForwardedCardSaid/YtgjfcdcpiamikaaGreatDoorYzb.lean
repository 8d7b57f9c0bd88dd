/- Plain: the law RequestsForwarded is true for every list of numbers. -/
import Derived.Test.YtgjfcdcpiamikaaGreatDoorPtYz
import Derived.Test.YtgjfcdcpiamikaaGreatDoorRsYz
namespace Go.Proofs.YtgjfcdcpiamikaaGreatDoor
set_option linter.unusedVariables false
set_option maxRecDepth 20000
theorem contains_any (l : List Bs) (v : Bs) (h : l.length ≤ 1000000000) : m_slices_Contains_L_string_string_ l v = some (l.any fun x => decide (v = x)) := by
  unfold m_slices_Contains_L_string_string_
  rw [index_eq l v h]
  simp only [Option.bind_some]
  unfold idxB
  rw [fdx_pos]
/-- a header is set -/
def setG (n v : Bs) : List S_api_Header → List S_api_Header
  | [] => []
  | x :: l => if nmB n x then S_api_Header.mk x.Name v :: l.filter (fun y => !nmB n y) else x :: setG n v l
def stB (n v : Bs) (l : List S_api_Header) : List S_api_Header := if l.any (nmB n) then setG n v l else l ++ [S_api_Header.mk n v]
theorem setG_yes {n v : Bs} {x : S_api_Header} {l : List S_api_Header} (h : nmB n x = true) : setG n v (x :: l) = S_api_Header.mk x.Name v :: l.filter (fun y => !nmB n y) := by
  show (if nmB n x then _ else _) = _
  rw [h]; rfl
theorem setG_no {n v : Bs} {x : S_api_Header} {l : List S_api_Header} (h : nmB n x = false) : setG n v (x :: l) = x :: setG n v l := by
  show (if nmB n x then _ else _) = _
  rw [h]; rfl
theorem set_done (n v : Bs) (hn : ascB n = true) : ∀ (l : List S_api_Header) (k : Nat) (q : List S_api_Header), (∀ x, x ∈ l → nmOK x) → q.length + l.length ≤ 1000000 →
    forL (fun (k : Nat) (x : S_api_Header) (s : Bool × (List S_api_Header)) => message_set_L1 n v k x s.1 s.2) (fun (s : Bool × (List S_api_Header)) => message_set_E1 n v s.1 s.2) k l (true, q) = some (q ++ l.filter fun y => !nmB n y)
  | [], k, q, _, _ => by
    show message_set_E1 n v true q = _
    unfold message_set_E1 message_set_J2
    simp
  | x :: l, k, q, h, hl => by
    simp only [List.length_cons] at hl
    have hx := named_eq x n (h x (by simp)) hn
    cases hb : nmB n x
    · have hst : message_set_L1 n v k x true q = some (.inl (true, q ++ [x])) := by
        unfold message_set_L1 message_set_J3
        rw [hx]
        simp only [Option.bind_some, hb, Bool.not_false, if_true]
        rw [if_pos (by omega)]
      show (message_set_L1 n v k x true q).bind _ = _
      rw [hst]
      refine Eq.trans (set_done n v hn l (k + 1) (q ++ [x]) (fun y hy => h y (List.mem_cons_of_mem _ hy)) (by simp; omega)) ?_
      rw [List.filter_cons, hb]; simp
    · have hst : message_set_L1 n v k x true q = some (.inl (true, q)) := by
        unfold message_set_L1 message_set_J3
        rw [hx]
        simp only [Option.bind_some, hb, Bool.not_true, Bool.false_eq_true, if_false]
      show (message_set_L1 n v k x true q).bind _ = _
      rw [hst]
      refine Eq.trans (set_done n v hn l (k + 1) q (fun y hy => h y (List.mem_cons_of_mem _ hy)) (by omega)) ?_
      rw [List.filter_cons, hb]; simp
theorem set_go (n v : Bs) (hn : ascB n = true) : ∀ (l : List S_api_Header) (k : Nat) (q : List S_api_Header), (∀ x, x ∈ l → nmOK x) → q.length + l.length ≤ 1000000 →
    forL (fun (k : Nat) (x : S_api_Header) (s : Bool × (List S_api_Header)) => message_set_L1 n v k x s.1 s.2) (fun (s : Bool × (List S_api_Header)) => message_set_E1 n v s.1 s.2) k l (false, q) = some (if l.any (nmB n) then q ++ setG n v l else (q ++ l) ++ [S_api_Header.mk n v])
  | [], k, q, _, hl => by
    show message_set_E1 n v false q = _
    unfold message_set_E1 message_set_J2
    rw [if_pos (show (!false) = true from rfl), if_pos (by simp at hl; omega)]
    simp
  | x :: l, k, q, h, hl => by
    simp only [List.length_cons] at hl
    have hx := named_eq x n (h x (by simp)) hn
    cases hb : nmB n x
    · have hst : message_set_L1 n v k x false q = some (.inl (false, q ++ [x])) := by
        unfold message_set_L1 message_set_J3
        rw [hx]
        simp only [Option.bind_some, hb, Bool.not_false, if_true]
        rw [if_pos (by omega)]
      show (message_set_L1 n v k x false q).bind _ = _
      rw [hst]
      refine Eq.trans (set_go n v hn l (k + 1) (q ++ [x]) (fun y hy => h y (List.mem_cons_of_mem _ hy)) (by simp; omega)) ?_
      rw [List.any_cons, hb, Bool.false_or, setG_no hb]; simp
    · have hst : message_set_L1 n v k x false q = some (.inl (true, q ++ [S_api_Header.mk x.Name v])) := by
        unfold message_set_L1 message_set_J3
        rw [hx]
        simp only [Option.bind_some, hb, Bool.not_true, Bool.false_eq_true, if_false, Bool.not_false, if_true]
        rw [if_pos (by omega)]
      show (message_set_L1 n v k x false q).bind _ = _
      rw [hst]
      refine Eq.trans (set_done n v hn l (k + 1) (q ++ [S_api_Header.mk x.Name v]) (fun y hy => h y (List.mem_cons_of_mem _ hy)) (by simp; omega)) ?_
      rw [List.any_cons, hb, Bool.true_or, if_pos rfl, setG_yes hb]; simp
theorem set_eq (l : List S_api_Header) (n v : Bs) (hl : l.length ≤ 1000) (h : ∀ x, x ∈ l → nmOK x) (hn : ascB n = true) : m_message_set l n v = some (stB n v l) := by
  unfold m_message_set stB
  rw [if_pos (by omega), set_go n v hn l 0 [] h (by simp; omega)]
  simp only [List.nil_append]
theorem setG_at (n v : Bs) : ∀ (l : List S_api_Header) (k : Nat), l.any (nmB n) = true → ∃ (i : Nat) (x : S_api_Header), fdx (nmB n) k l = ((k + i : Nat) : Int) ∧ i < l.length ∧ l[i]? = some x ∧ setG n v l = l.take i ++ S_api_Header.mk x.Name v :: (l.drop (i + 1)).filter (fun y => !nmB n y)
  | [], k, h => by cases h
  | x :: l, k, h => by
    cases hb : nmB n x
    · rw [List.any_cons, hb, Bool.false_or] at h
      obtain ⟨i, y, h1, h2, h3, h4⟩ := setG_at n v l (k + 1) h
      refine ⟨i + 1, y, ?_, by simp; omega, by simpa using h3, ?_⟩
      · simp only [fdx, hb, Bool.false_eq_true, if_false, h1]; omega
      · rw [setG_no hb, h4]; simp
    · refine ⟨0, x, ?_, by simp, rfl, ?_⟩
      · simp [fdx, hb]
      · rw [setG_yes hb]; simp
theorem refWithout_eq (l : List S_api_Header) (n : Bs) (hl : l.length ≤ 1000000) (h : ∀ x, x ∈ l → nmOK x) (hn : ascB n = true ∧ n.length ≤ 100000) : m_gateref2_Without l n = some (l.filter fun x => !nmB n x) := by
  unfold m_gateref2_Without m_slices_Clone
  rw [if_pos (by omega)]
  simp only [Option.bind_some]
  have e : m_slices_DeleteFunc_L_api_Header_api_Header_ l (fun (a0 : S_api_Header) => m_gateref2_Without_1 a0 n) = some (l.filter fun x => !nmB n x) :=
    gDel_eq (S_api_Header.mk [] []) l (p := fun (a0 : S_api_Header) => m_gateref2_Without_1 a0 n) (nmB n) (by omega) fun x hx => by
      unfold m_gateref2_Without_1
      rw [alike_eq x.Name n (h x hx) hn]; rfl
  rw [e]; rfl
theorem sub_drop (l : List S_api_Header) (k : Nat) (h : k ≤ l.length) : sub? l (k : Int) (l.length : Int) = some (l.drop k) := by
  unfold sub?
  rw [if_pos (by omega)]
  simp only [Int.toNat_natCast]
  rw [List.take_of_length_le (by simp)]
theorem setOf_eq (l : List S_api_Header) (n v : Bs) (hl : l.length ≤ 1000) (h : ∀ x, x ∈ l → nmOK x) (hn : ascB n = true ∧ n.length ≤ 100000) : m_gateref2_SetOf l n v = some (stB n v l) := by
  have e : m_slices_IndexFunc_L_api_Header_api_Header_ l (fun (a0 : S_api_Header) => m_gateref2_SetOf_1 a0 n) = some (fdx (nmB n) 0 l) :=
    gIdx_eq l (p := fun (a0 : S_api_Header) => m_gateref2_SetOf_1 a0 n) (nmB n) (by omega) fun x hx => by
      unfold m_gateref2_SetOf_1
      rw [alike_eq x.Name n (h x hx) hn]; rfl
  unfold m_gateref2_SetOf
  rw [e]
  simp only [Option.bind_some]
  rw [fdx_neg]
  unfold stB m_slices_Clone
  cases ha : l.any (nmB n)
  · simp only [Bool.not_false, if_true, Bool.false_eq_true, if_false]
    rw [if_pos (by omega)]
    simp only [Option.bind_some]
    rw [if_pos (by omega)]
  · obtain ⟨i, x, h1, h2, h3, h4⟩ := setG_at n v l 0 ha
    rw [Nat.zero_add] at h1
    simp only [Bool.not_true, Bool.false_eq_true, if_false, if_true]
    rw [h1, sub_take l i (by omega)]
    simp only [Option.bind_some]
    have hti : (l.take i).length = i := by simp; omega
    have hf := List.length_filter_le (fun y => !nmB n y) (l.drop (i + 1))
    have hd : (l.drop (i + 1)).length ≤ l.length := by simp
    rw [if_pos (by omega), at_nat, h3]
    simp only [Option.bind_some]
    rw [if_pos (by omega), show wr ((i : Int) + 1) = ((i + 1 : Nat) : Int) by rw [wr_id (by omega)]; omega, sub_drop l (i + 1) (by omega)]
    simp only [Option.bind_some]
    rw [refWithout_eq (l.drop (i + 1)) n (by omega) (fun y hy => h y (List.mem_of_mem_drop hy)) hn]
    simp only [Option.bind_some]
    rw [if_pos (by simp only [List.length_append, List.length_cons, List.length_nil]; omega), h4]
    simp
/-- headers whose names are ASCII, their number, the length of their values -/
def hvP (n B : Nat) (l : List S_api_Header) : Prop := l.length ≤ n ∧ ∀ x, x ∈ l → nmOK x ∧ x.Value.length ≤ B
theorem hvP_nm {n B : Nat} {l : List S_api_Header} (h : hvP n B l) : ∀ x, x ∈ l → nmOK x := fun x hx => (h.2 x hx).1
theorem hvP_filter {n B : Nat} {l : List S_api_Header} (h : hvP n B l) (q : S_api_Header → Bool) : hvP n B (l.filter q) :=
  ⟨Nat.le_trans (List.length_filter_le q l) h.1, fun x hx => h.2 x (List.mem_filter.1 hx).1⟩
theorem hvP_mono {n m B C : Nat} {l : List S_api_Header} (h : hvP n B l) (hn : n ≤ m) (hB : B ≤ C) : hvP m C l := ⟨by have := h.1; omega, fun x hx => ⟨(h.2 x hx).1, by have := (h.2 x hx).2; omega⟩⟩
theorem setG_ok (n v : Bs) : ∀ (l : List S_api_Header), (setG n v l).length ≤ l.length ∧ ∀ y, y ∈ setG n v l → y ∈ l ∨ ∃ x, x ∈ l ∧ y = S_api_Header.mk x.Name v
  | [] => ⟨Nat.le_refl _, fun y hy => (by cases hy)⟩
  | x :: l => by
    obtain ⟨h1, h2⟩ := setG_ok n v l
    cases hb : nmB n x
    · rw [setG_no hb]
      refine ⟨by simp only [List.length_cons]; omega, fun y hy => ?_⟩
      rcases List.mem_cons.1 hy with rfl | hy
      · exact .inl (by simp)
      · rcases h2 y hy with h3 | ⟨z, h3, h4⟩
        · exact .inl (List.mem_cons_of_mem _ h3)
        · exact .inr ⟨z, List.mem_cons_of_mem _ h3, h4⟩
    · rw [setG_yes hb]
      refine ⟨by have := List.length_filter_le (fun y => !nmB n y) l; simp only [List.length_cons]; omega, fun y hy => ?_⟩
      rcases List.mem_cons.1 hy with rfl | hy
      · exact .inr ⟨x, by simp, rfl⟩
      · exact .inl (List.mem_cons_of_mem _ (List.mem_filter.1 hy).1)
theorem stB_ok {k B : Nat} {l : List S_api_Header} (h : hvP k B l) (n v : Bs) (hn : ascB n = true ∧ n.length ≤ 100000) (hv : v.length ≤ B) : hvP (k + 1) B (stB n v l) := by
  unfold stB
  split
  · have hg := setG_ok n v l
    refine ⟨by have := h.1; omega, fun y hy => ?_⟩
    rcases hg.2 y hy with h3 | ⟨z, h3, rfl⟩
    · exact h.2 y h3
    · exact ⟨(h.2 z h3).1, hv⟩
  · refine ⟨by have := h.1; simp; omega, fun y hy => ?_⟩
    rcases List.mem_append.1 hy with h3 | h3
    · exact h.2 y h3
    · rw [List.mem_singleton.1 h3]; exact ⟨hn, hv⟩
/-- values joined -/
def neB (l : List Bs) : List Bs := l.filter fun s => !decide (s = [])
theorem neB_mem {l : List Bs} {x : Bs} (h : x ∈ neB l) : x ∈ l ∧ x ≠ [] := by
  have := List.mem_filter.1 h
  exact ⟨this.1, by simpa using this.2⟩
theorem neB_len (l : List Bs) : (neB l).length ≤ l.length := List.length_filter_le _ _
theorem join_ne {l : List Bs} (sep : Bs) (h : l ≠ []) (hx : ∀ x, x ∈ l → x ≠ []) : Lib.join l sep ≠ [] := by
  cases l with
  | nil => exact absurd rfl h
  | cons x l =>
    rw [Lib.join_cons]
    have := hx x (by simp)
    simp [this]
abbrev cmS : Bs := [44, 32]
def jnB (n v : Bs) (l : List S_api_Header) : List Bs := neB (valsB n l ++ [v])
theorem vals_ok {k B : Nat} {l : List S_api_Header} (h : hvP k B l) (n : Bs) : (valsB n l).length ≤ k ∧ ∀ x, x ∈ valsB n l → x.length ≤ B := by
  unfold valsB
  refine ⟨?_, fun x hx => ?_⟩
  · rw [List.length_map]
    exact Nat.le_trans (List.length_filter_le _ _) h.1
  · obtain ⟨y, h1, rfl⟩ := List.mem_map.1 hx
    exact (h.2 y (List.mem_filter.1 h1).1).2
theorem jn_ok {k B : Nat} {l : List S_api_Header} (h : hvP k B l) (n v : Bs) (hv : v.length ≤ B) : (jnB n v l).length ≤ k + 1 ∧ (∀ x, x ∈ jnB n v l → x.length ≤ B) ∧ (Lib.join (jnB n v l) cmS).length ≤ (k + 1) * (B + 2) := by
  have h1 := vals_ok h n
  have h2 : (jnB n v l).length ≤ k + 1 := Nat.le_trans (neB_len _) (by have := h1.1; simp; omega)
  have h3 : ∀ x, x ∈ jnB n v l → x.length ≤ B := fun x hx => by
    rcases List.mem_append.1 (neB_mem hx).1 with h3 | h3
    · exact h1.2 x h3
    · rw [List.mem_singleton.1 h3]; exact hv
  exact ⟨h2, h3, Nat.le_trans (join_le B cmS _ h3) (Nat.mul_le_mul h2 (Nat.le_refl _))⟩
theorem jn_some {k B : Nat} {l : List S_api_Header} (h : hvP k B l) (hk : k ≤ 100) (hB : B ≤ 1000000) (n v : Bs) (hv : v.length ≤ B) : m_strings_Join (jnB n v l) cmS = some (Lib.join (jnB n v l) cmS) := by
  have h1 := jn_ok h n v hv
  have h2 : (k + 1) * (B + 2) ≤ 101 * 1000002 := Nat.mul_le_mul (by omega) (by omega)
  unfold m_strings_Join
  rw [if_pos ⟨by omega, by omega⟩]
theorem joined_eq {k B : Nat} {l : List S_api_Header} (h : hvP k B l) (hk : k ≤ 100) (hB : B ≤ 1000000) (n v : Bs) (hv : v.length ≤ B) : m_message_joined (valsB n l) v = some (Lib.join (jnB n v l) cmS) := by
  have h1 := vals_ok h n
  unfold m_message_joined m_slices_Clone
  rw [if_pos (by omega)]
  simp only [Option.bind_some]
  rw [if_pos (by omega)]
  have e : m_slices_DeleteFunc_L_string_string_ (valsB n l ++ [v]) (fun (a0 : Bs) => m_message_joined_1 a0) = some (jnB n v l) :=
    gDel_eq ([] : Bs) (valsB n l ++ [v]) (p := fun (a0 : Bs) => m_message_joined_1 a0) (fun s => decide (s = [])) (by simp; omega) fun x _ => rfl
  rw [e]
  simp only [Option.bind_some]
  rw [jn_some h hk hB n v hv]; rfl
def addB (n v : Bs) (l : List S_api_Header) : List S_api_Header := if jnB n v l = [] then l else stB n (Lib.join (jnB n v l) cmS) l
theorem jn_nil {n v : Bs} {l : List S_api_Header} : Lib.join (jnB n v l) cmS = [] ↔ jnB n v l = [] := by
  constructor
  · intro h
    refine Classical.byContradiction fun hn => join_ne cmS hn (fun x hx => (neB_mem hx).2) h
  · intro h; rw [h]; rfl
theorem add_ref {k B : Nat} {c : S_api_Request} (h : hvP k B c.Headers) (hk : k ≤ 100) (hB : B ≤ 1000000) (n v : Bs) (hn : ascB n = true ∧ n.length ≤ 100000) (hv : v.length ≤ B) :
    m_gateref2_ForwardOf_2 n v c = some (S_api_Request.mk c.At c.Method c.Host c.Path c.Query c.From (addB n v c.Headers) c.Body) := by
  have h1 := vals_ok h n
  have hl := h.1
  unfold m_gateref2_ForwardOf_2
  rw [(values_eq c.Headers n (by omega) (hvP_nm h) hn).2]
  simp only [Option.bind_some]
  rw [if_pos (by omega)]
  have e : m_slices_DeleteFunc_L_string_string_ (valsB n c.Headers ++ [v]) (fun (a0 : Bs) => m_gateref2_ForwardOf_2_1 a0) = some (jnB n v c.Headers) :=
    gDel_eq ([] : Bs) (valsB n c.Headers ++ [v]) (p := fun (a0 : Bs) => m_gateref2_ForwardOf_2_1 a0) (fun s => decide (s = [])) (by simp; omega) fun x _ => rfl
  rw [e]
  simp only [Option.bind_some]
  unfold addB
  by_cases hj : jnB n v c.Headers = []
  · rw [if_neg (by simp [hj]), if_pos hj]
  · have := List.length_pos_iff.2 hj
    rw [if_pos (by simp; omega), if_neg hj, jn_some h hk hB n v hv]
    simp only [Option.bind_some]
    rw [setOf_eq c.Headers n _ (by omega) (hvP_nm h) hn]; rfl
theorem addB_ok {k B C : Nat} {l : List S_api_Header} (h : hvP k B l) (n v : Bs) (hn : ascB n = true ∧ n.length ≤ 100000) (hv : v.length ≤ B) (hBC : B ≤ C) (hC : (k + 1) * (B + 2) ≤ C) : hvP (k + 1) C (addB n v l) := by
  unfold addB
  split
  · exact hvP_mono h (by omega) hBC
  · exact stB_ok (hvP_mono h (Nat.le_refl _) hBC) n _ hn (by have := (jn_ok h n v hv).2.2; omega)

/-- names that are taken away -/
abbrev hopL : List Bs := [[99, 111, 110, 110, 101, 99, 116, 105, 111, 110], [107, 101, 101, 112, 45, 97, 108, 105, 118, 101], [116, 101], [116, 114, 97, 105, 108, 101, 114], [117, 112, 103, 114, 97, 100, 101]]
def hopB (gs : List Bs) (x : S_api_Header) : Bool := gs.any fun g => nmB g x
theorem hops_msg (fin : List S_api_Header → Option (S_api_Request × Int)) : ∀ (gs : List Bs) (k : Nat) (l : List S_api_Header), (∀ g, g ∈ gs → ascB g = true) → (∀ x, x ∈ l → nmOK x) → l.length ≤ 1000000 →
    forL (fun (k : Nat) (x : Bs) (s : List S_api_Header) => message_Forward_L1 k x s) fin k gs l = fin (l.filter fun x => !hopB gs x)
  | [], k, l, _, _, _ => by
    show fin l = _
    have : (l.filter fun x => !hopB [] x) = l := by simp [hopB]
    rw [this]
  | g :: gs, k, l, hg, h, hl => by
    have hst : message_Forward_L1 k g l = some (.inl (l.filter fun x => !nmB g x)) := by
      unfold message_Forward_L1
      rw [without_eq l g hl h (hg g (by simp))]; rfl
    show (message_Forward_L1 k g l).bind _ = _
    rw [hst]
    refine Eq.trans (hops_msg fin gs (k + 1) (l.filter fun x => !nmB g x) (fun y hy => hg y (List.mem_cons_of_mem _ hy)) (fun x hx => h x (List.mem_filter.1 hx).1) (Nat.le_trans (List.length_filter_le _ _) hl)) ?_
    rw [List.filter_filter]
    have : (fun x => (!hopB gs x) && !nmB g x) = fun x => !hopB (g :: gs) x := by
      funext x
      unfold hopB
      rw [List.any_cons, Bool.not_or, Bool.and_comm]
    rw [this]
theorem hops_ref (gs : List Bs) (l : List S_api_Header) (hg : ∀ g, g ∈ gs → ascB g = true ∧ g.length ≤ 100000) (hgl : gs.length ≤ 100000000) (h : ∀ x, x ∈ l → nmOK x) (hl : l.length ≤ 1000000) :
    m_slices_DeleteFunc_L_api_Header_api_Header_ l (fun (a0 : S_api_Header) => m_gateref2_ForwardOf_1 a0 gs) = some (l.filter fun x => !hopB gs x) :=
  gDel_eq (S_api_Header.mk [] []) l (p := fun (a0 : S_api_Header) => m_gateref2_ForwardOf_1 a0 gs) (hopB gs) (by omega) fun x hx => by
    unfold m_gateref2_ForwardOf_1
    have e : m_slices_ContainsFunc_L_string_string_ gs (fun (a0 : Bs) => m_gateref2_ForwardOf_1_1 a0 x) = some (hopB gs x) :=
      gCon_eq gs (p := fun (a0 : Bs) => m_gateref2_ForwardOf_1_1 a0 x) (fun g => nmB g x) (by omega) fun g hgm => by
        unfold m_gateref2_ForwardOf_1_1
        rw [alike_eq g x.Name (hg g hgm) (h x hx)]
        simp only [Option.bind_some]
        unfold nmB
        exact congrArg some (decide_eq_decide.2 eq_comm)
    rw [e]; rfl
theorem concat_two (a b : List Bs) (ha : a.length ≤ 1000000) (hb : b.length ≤ 100000000) : m_slices_Concat_L_string_string_ [a, b] = some (a ++ b) := by
  unfold m_slices_Concat_L_string_string_
  rw [if_pos (by simp)]
  have h1 : slices_Concat_L_string_string__L1 0 a 0 = some (.inl (a.length : Int)) := by
    unfold slices_Concat_L_string_string__L1
    rw [wr_id (by omega), if_neg (by simp)]; simp
  have h2 : slices_Concat_L_string_string__L1 1 b (a.length : Int) = some (.inl ((a.length : Int) + (b.length : Int))) := by
    unfold slices_Concat_L_string_string__L1
    rw [wr_id (by omega), if_neg (by simp; omega)]
  show (slices_Concat_L_string_string__L1 0 a 0).bind _ = _
  rw [h1]
  show (slices_Concat_L_string_string__L1 1 b (a.length : Int)).bind _ = _
  rw [h2]
  show slices_Concat_L_string_string__E1 [a, b] _ = _
  unfold slices_Concat_L_string_string__E1 m_slices_Grow
  rw [if_pos (by omega)]
  simp only [Option.bind_some]
  rw [if_pos (by simp)]
  have h3 : slices_Concat_L_string_string__L2 0 a [] = some (.inl a) := by
    unfold slices_Concat_L_string_string__L2
    rw [if_pos (by simp; omega)]; rfl
  have h4 : slices_Concat_L_string_string__L2 1 b a = some (.inl (a ++ b)) := by
    unfold slices_Concat_L_string_string__L2
    rw [if_pos (by omega)]
  show (slices_Concat_L_string_string__L2 0 a []).bind _ = _
  rw [h3]
  show (slices_Concat_L_string_string__L2 1 b a).bind _ = _
  rw [h4]; rfl
/-- a request is forwarded -/
abbrev xffL : Bs := [120, 45, 102, 111, 114, 119, 97, 114, 100, 101, 100, 45, 102, 111, 114]
abbrev xfhL : Bs := [120, 45, 102, 111, 114, 119, 97, 114, 100, 101, 100, 45, 104, 111, 115, 116]
abbrev viaL : Bs := [118, 105, 97]
abbrev noneQ : S_api_Request := S_api_Request.mk 0 [] [] [] [] [] [] []
def l2B (r : S_api_Request) (l : List S_api_Header) : List S_api_Header := if valsB xfhL l = [] then addB xfhL r.Host l else l
def bigB (h : S_api_Header) : Bool := decide (2000 < (h.Value.length : Int))
def fR (r : S_api_Request) (l : List S_api_Header) : S_api_Request × Int :=
  if (decide (50 < (l.length : Int)) || l.any bigB) = true then (noneQ, 2) else (S_api_Request.mk r.At r.Method r.Host r.Path r.Query r.From l r.Body, 0)
theorem addB_one {n v : Bs} {l : List S_api_Header} (h : valsB n l = []) (hv : v ≠ []) : addB n v l = stB n v l := by
  have e : jnB n v l = [v] := by
    unfold jnB neB
    rw [h]; simp [hv]
  unfold addB
  rw [e, if_neg (by simp), Lib.join_one]
theorem addB_ne {n v : Bs} {l : List S_api_Header} (hv : v ≠ []) : addB n v l = stB n (Lib.join (jnB n v l) cmS) l := by
  have e : v ∈ jnB n v l := by
    unfold jnB neB
    exact List.mem_filter.2 ⟨by simp, by simp [hv]⟩
  unfold addB
  rw [if_neg (List.ne_nil_of_mem e)]
theorem l2B_ok {r : S_api_Request} {l : List S_api_Header} (h : hvP 51 110000 l) (hH : r.Host.length ≤ 2000 ∧ r.Host ≠ []) : hvP 52 110000 (l2B r l) := by
  unfold l2B
  by_cases hv : valsB xfhL l = []
  · rw [if_pos hv, addB_one hv hH.2]
    exact stB_ok h xfhL r.Host ⟨rfl, by decide⟩ (by omega)
  · rw [if_neg hv]; exact hvP_mono h (by omega) (Nat.le_refl _)
theorem big_msg (l : List S_api_Header) (h : l.length ≤ 1000000000) : m_slices_ContainsFunc_L_api_Header_api_Header_ l (fun (a0 : S_api_Header) => m_message_Forward_1 a0) = some (l.any bigB) :=
  gCon_eq l (p := fun (a0 : S_api_Header) => m_message_Forward_1 a0) bigB h fun x _ => rfl
theorem big_ref (l : List S_api_Header) (h : l.length ≤ 1000000000) : m_slices_ContainsFunc_L_api_Header_api_Header_ l (fun (a0 : S_api_Header) => m_gateref2_ForwardOf_3 a0) = some (l.any bigB) :=
  gCon_eq l (p := fun (a0 : S_api_Header) => m_gateref2_ForwardOf_3 a0) bigB h fun x _ => rfl
theorem via_ok {l : List S_api_Header} (h : hvP 52 110000 l) {v : Bs} (hv : v.length ≤ 2000 ∧ v ≠ []) : hvP 53 6000000 (addB viaL v l) :=
  addB_ok h viaL v ⟨rfl, by decide⟩ (by omega) (by omega) (by omega)
theorem fwdJ3 (r : S_api_Request) {v : Bs} (hv : v.length ≤ 2000 ∧ v ≠ []) {l : List S_api_Header} (h : hvP 52 110000 l) : message_Forward_J3 r v l = some (fR r (addB viaL v l)) := by
  have hl := h.1
  have hk := (via_ok h hv).1
  unfold message_Forward_J3
  rw [(values_eq l viaL (by omega) (hvP_nm h) ⟨rfl, by decide⟩).1]
  simp only [Option.bind_some]
  rw [joined_eq h (by omega) (by omega) viaL v (by omega)]
  simp only [Option.bind_some]
  rw [set_eq l viaL _ (by omega) (hvP_nm h) rfl, ← addB_ne hv.2]
  simp only [Option.bind_some]
  unfold fR message_Forward_J4
  by_cases h50 : 50 < ((addB viaL v l).length : Int)
  · rw [if_pos (by simpa using h50), if_pos rfl, if_pos (by simp [h50])]
  · rw [if_neg (by simpa using h50), big_msg _ (by omega)]
    simp only [Option.bind_some]
    cases (addB viaL v l).any bigB <;> simp [h50]
theorem fwdR1 (r : S_api_Request) {v : Bs} (hv : v.length ≤ 2000 ∧ v ≠ []) {l : List S_api_Header} (h : hvP 52 110000 l) : gateref2_ForwardOf_J1 v r.At r.Method r.Host r.Path r.Query r.From l r.Body = some (fR r (addB viaL v l)) := by
  have hk := (via_ok h hv).1
  unfold gateref2_ForwardOf_J1
  rw [add_ref (c := S_api_Request.mk r.At r.Method r.Host r.Path r.Query r.From l r.Body) h (by omega) (by omega) viaL v ⟨rfl, by decide⟩ (by omega)]
  simp only [Option.bind_some]
  unfold fR gateref2_ForwardOf_J2
  by_cases h50 : 50 < ((addB viaL v l).length : Int)
  · rw [if_pos (by simpa using h50), if_pos rfl, if_pos (by simp [h50])]
  · rw [if_neg (by simpa using h50), big_ref _ (by omega)]
    simp only [Option.bind_some]
    cases (addB viaL v l).any bigB <;> simp [h50]
theorem fwdJ2 (r : S_api_Request) {v : Bs} (hv : v.length ≤ 2000 ∧ v ≠ []) (hH : r.Host.length ≤ 2000 ∧ r.Host ≠ []) {l : List S_api_Header} (h : hvP 51 110000 l) : message_Forward_J2 r v l = some (fR r (addB viaL v (l2B r l))) := by
  have hl := h.1
  have hk := l2B_ok h hH
  unfold message_Forward_J2
  rw [(values_eq l xfhL (by omega) (hvP_nm h) ⟨rfl, by decide⟩).1]
  simp only [Option.bind_some]
  by_cases hx : valsB xfhL l = []
  · rw [if_pos (by simp [hx]), set_eq l xfhL _ (by omega) (hvP_nm h) rfl, ← addB_one hx hH.2]
    simp only [Option.bind_some]
    have e : l2B r l = addB xfhL r.Host l := if_pos hx
    rw [e] at hk ⊢
    exact fwdJ3 r hv hk
  · have e : l2B r l = l := if_neg hx
    rw [e] at hk ⊢
    rw [if_neg (by simpa using hx)]
    exact fwdJ3 r hv hk
theorem fwdE1 (r : S_api_Request) {v : Bs} (hv : v.length ≤ 2000 ∧ v ≠ []) (hH : r.Host.length ≤ 2000 ∧ r.Host ≠ []) (hF : r.From.length ≤ 2000) {l : List S_api_Header} (h : hvP 50 2000 l) : message_Forward_E1 r v l = some (fR r (addB viaL v (l2B r (addB xffL r.From l)))) := by
  have hl := h.1
  have hk : hvP 51 110000 (addB xffL r.From l) := addB_ok h xffL r.From ⟨rfl, by decide⟩ hF (by omega) (by omega)
  unfold message_Forward_E1
  rw [(values_eq l xffL (by omega) (hvP_nm h) ⟨rfl, by decide⟩).1]
  simp only [Option.bind_some]
  rw [joined_eq h (by omega) (by omega) xffL r.From hF]
  simp only [Option.bind_some]
  by_cases hj : jnB xffL r.From l = []
  · have e : addB xffL r.From l = l := if_pos hj
    rw [e] at hk ⊢
    rw [if_neg (by simpa using jn_nil.2 hj)]
    exact fwdJ2 r hv hH hk
  · have e : addB xffL r.From l = stB xffL (Lib.join (jnB xffL r.From l) cmS) l := if_neg hj
    rw [if_pos (by simpa using fun h => hj (jn_nil.1 h)), set_eq l xffL _ (by omega) (hvP_nm h) rfl, ← e]
    simp only [Option.bind_some]
    exact fwdJ2 r hv hH hk

theorem hostNil : isHostC [] = some false := by decide +kernel
theorem request_zero (r : S_api_Request) (h : rqP r) : ∃ e, m_message_CheckRequest r = some e ∧ m_gateref2_RequestFault r = some e ∧ (e = 0 → hdsE r.Headers = 0 ∧ fldB r.From = true ∧ (r.Host.length ≤ 2000 ∧ r.Host ≠ [])) := by
  obtain ⟨e, e1, e2⟩ := request_same r h
  refine ⟨e, e1, e2, fun h0 => ?_⟩
  subst h0
  obtain ⟨p1, p2, p3, p4, p5, p6⟩ := h
  obtain ⟨b, q, c1, c2, c3⟩ := host_same p2
  have hh := headers_eq r.Headers p6
  have hl : r.Host.length ≤ 1000 := of_decide_eq_true (List.all_eq_true.1 hosts_len _ p2)
  have hne : b = true → r.Host ≠ [] := fun hb hx => by
    rw [hx, isHost_eq [] (by simp), hostNil, hb] at c1
    cases c1
  unfold m_message_CheckRequest message_CheckRequest_J1 at e1
  rw [isMoment_eq, isToken_eq _ (by omega), c1, pathFault_eq _ (by omega), queryFault_eq _ (by omega), isField_eq _ (by omega), hh.1] at e1
  simp only [Option.bind_some] at e1
  cases hm : momP r.At
  · rw [hm] at e1; simp at e1
  · cases ht : tokB r.Method
    · rw [hm, ht] at e1; simp at e1
    · cases b
      · rw [hm, ht] at e1; simp at e1
      · cases hp : pthB r.Path
        · rw [hm, ht, hp] at e1; simp at e1
        · cases hq : qryB r.Query
          · rw [hm, ht, hp, hq] at e1; simp at e1
          · cases hf : fldB r.From
            · rw [hm, ht, hp, hq, hf] at e1; simp at e1
            · rw [hm, ht, hp, hq, hf] at e1
              by_cases h0 : hdsE r.Headers = 0
              · exact ⟨h0, rfl, by omega, hne rfl⟩
              · simp [h0] at e1
theorem pts_len (V : List Bs) (h : vlP V) : (ptsB V).length ≤ 3000000 := by
  have h1 := (pieces_len V h.2).1
  have h2 := tfB_len (V.map (spl 44)).flatten
  have h3 : V.length * 2001 ≤ 1000 * 2001 := Nat.mul_le_mul h.1 (Nat.le_refl _)
  unfold ptsB
  omega
theorem good_hv {r : S_api_Request} (h : hdsE r.Headers = 0) : hvP 50 2000 r.Headers ∧ ∀ x, x ∈ r.Headers → ascB x.Value = true := by
  have hok := hds_ok h
  exact ⟨⟨hds_cnt h, fun x hx => ⟨⟨tok_asc (hok x hx).1, by have := tok_len (hok x hx).1; omega⟩, fld_len (hok x hx).2⟩⟩, fun x hx => rg_asc (fld_rg (hok x hx).2)⟩
theorem vals_vl {l : List S_api_Header} (h : hvP 50 2000 l) (n : Bs) : vlP (valsB n l) := ⟨by have := (vals_ok h n).1; omega, (vals_ok h n).2⟩
theorem forward_same (r : S_api_Request) (v : Bs) (hr : rqP r) (hv : v.length ≤ 2000) : ∃ x, m_message_Forward r v = some x ∧ m_gateref2_ForwardOf r v = some x ∧ x.1.Headers.length ≤ 1000000000 := by
  obtain ⟨e, e1, e2, e3⟩ := request_zero r hr
  unfold m_message_Forward m_gateref2_ForwardOf
  rw [e1, e2]
  simp only [Option.bind_some]
  by_cases h0 : e = 0
  · obtain ⟨h1, h2, hH⟩ := e3 h0
    obtain ⟨hvp, hasc⟩ := good_hv h1
    have hl := hvp.1
    rw [if_neg (by simpa using h0), if_neg (by simpa using h0), isToken_eq _ (by omega), token_eq _ (by omega)]
    simp only [Option.bind_some]
    cases ht : tokB v
    · exact ⟨_, rfl, rfl, by simp⟩
    · have hvn : v ≠ [] := by rintro rfl; simp [tokB] at ht
      have hF := fld_len h2
      have hvia := values_eq r.Headers viaL (by omega) (hvP_nm hvp) ⟨rfl, by decide⟩
      have hcon := values_eq r.Headers [99, 111, 110, 110, 101, 99, 116, 105, 111, 110] (by omega) (hvP_nm hvp) ⟨rfl, by decide⟩
      have hp1 := pts_len _ (vals_vl hvp viaL)
      have hp2 := pts_len _ (vals_vl hvp [99, 111, 110, 110, 101, 99, 116, 105, 111, 110])
      simp only [Bool.not_true, Bool.false_eq_true, if_false]
      rw [hvia.1, hvia.2]
      simp only [Option.bind_some]
      rw [parts_msg _ (vals_vl hvp viaL), parts_ref _ (vals_vl hvp viaL)]
      simp only [Option.bind_some]
      rw [contains_any _ _ (by omega)]
      simp only [Option.bind_some]
      cases (ptsB (valsB viaL r.Headers)).any fun x => decide (v = x)
      · simp only [Bool.false_eq_true, if_false]
        by_cases h20 : 20 ≤ ((ptsB (valsB viaL r.Headers)).length : Int)
        · rw [if_pos (by simpa using h20), if_pos (by simpa using h20)]
          exact ⟨_, rfl, rfl, by simp⟩
        · rw [if_neg (by simpa using h20), if_neg (by simpa using h20)]
          have hcl : m_slices_Clone r.Headers = some r.Headers := if_pos (by omega)
          rw [hcl, hcon.1, hcon.2]
          simp only [Option.bind_some]
          rw [parts_msg _ (vals_vl hvp _), parts_ref _ (vals_vl hvp _)]
          have hho : m_message_hopNames = some hopL := rfl
          rw [hho]
          simp only [Option.bind_some]
          have hmem : ∀ g, g ∈ hopL ++ ptsB (valsB [99, 111, 110, 110, 101, 99, 116, 105, 111, 110] r.Headers) → ascB g = true ∧ g.length ≤ 100000 := fun g hg => by
            rcases List.mem_append.1 hg with h3 | h3
            · exact of_decide_eq_true (List.all_eq_true.1 (show hopL.all (fun g => decide (ascB g = true ∧ g.length ≤ 100000)) = true by decide) g h3)
            · obtain ⟨w, q1, q2, q3⟩ := ptsB_mem h3
              have q4 := (vals_ok hvp _).2 w q1
              obtain ⟨x, q5, q6⟩ := List.mem_map.1 q1
              have q7 := hasc x (List.mem_filter.1 q5).1
              rw [q6] at q7
              exact ⟨asc_mem q7 q3, by omega⟩
          have hll : (hopL ++ ptsB (valsB [99, 111, 110, 110, 101, 99, 116, 105, 111, 110] r.Headers)).length ≤ 4000000 := by simp only [List.length_append, List.length_cons, List.length_nil]; omega
          rw [concat_two hopL _ (by simp) (by omega)]
          simp only [Option.bind_some]
          rw [if_pos (by omega), hops_msg _ _ 0 r.Headers (fun g hg => (hmem g hg).1) (hvP_nm hvp) (by omega)]
          have hfv := hvP_filter hvp (fun x => !hopB (hopL ++ ptsB (valsB [99, 111, 110, 110, 101, 99, 116, 105, 111, 110] r.Headers)) x)
          rw [if_pos (by simp only [List.length_cons, List.length_nil]; omega), hops_ref _ r.Headers hmem (by omega) (hvP_nm hvp) (by omega)]
          generalize (r.Headers.filter fun x => !hopB (hopL ++ ptsB (valsB [99, 111, 110, 110, 101, 99, 116, 105, 111, 110] r.Headers)) x) = l at *
          simp only [Option.bind_some]
          rw [fwdE1 r ⟨hv, hvn⟩ hH hF hfv]
          have hk : hvP 51 110000 (addB xffL r.From l) := addB_ok hfv xffL r.From ⟨rfl, by decide⟩ hF (by omega) (by omega)
          have hk2 := l2B_ok hk hH
          have hkl := hk.1
          rw [add_ref (c := S_api_Request.mk r.At r.Method r.Host r.Path r.Query r.From l r.Body) hfv (by omega) (by omega) xffL r.From ⟨rfl, by decide⟩ hF]
          simp only [Option.bind_some]
          rw [(values_eq (addB xffL r.From l) xfhL (by omega) (hvP_nm hk) ⟨rfl, by decide⟩).2]
          simp only [Option.bind_some]
          have hlen : (fR r (addB viaL v (l2B r (addB xffL r.From l)))).1.Headers.length ≤ 1000000000 := by
            have := (via_ok hk2 ⟨hv, hvn⟩).1
            unfold fR
            split
            · simp
            · show (addB viaL v (l2B r (addB xffL r.From l))).length ≤ _; omega
          refine ⟨_, rfl, ?_, hlen⟩
          by_cases hx : valsB xfhL (addB xffL r.From l) = []
          · have e : l2B r (addB xffL r.From l) = addB xfhL r.Host (addB xffL r.From l) := if_pos hx
            rw [e] at hk2 ⊢
            rw [if_pos (by simp [hx]), add_ref (c := S_api_Request.mk r.At r.Method r.Host r.Path r.Query r.From (addB xffL r.From l) r.Body) hk (by omega) (by omega) xfhL r.Host ⟨rfl, by decide⟩ (by omega)]
            exact fwdR1 r ⟨hv, hvn⟩ hk2
          · have e : l2B r (addB xffL r.From l) = addB xffL r.From l := if_neg hx
            rw [e] at hk2 ⊢
            rw [if_neg (by simpa using hx)]
            exact fwdR1 r ⟨hv, hvn⟩ hk2
      · exact ⟨_, rfl, rfl, by simp⟩
  · rw [if_pos (by simpa using h0), if_pos (by simpa using h0)]
    exact ⟨_, rfl, rfl, by simp⟩
/-- the caller of a request -/
theorem back_ok {α σ ρ : Type} {body : Nat → α → σ → Option (σ ⊕ ρ)} {fin : σ → Option ρ} (l : List α) (hb : ∀ k x s, ∃ q, body k x s = some q) (hf : ∀ s, ∃ r, fin s = some r) : ∀ (n : Nat) (s : σ), n ≤ l.length → ∃ r, back body fin l n s = some r
  | 0, s, _ => hf s
  | n + 1, s, h => by
    have hn : n < l.length := by omega
    obtain ⟨q, hq⟩ := hb n l[n] s
    show ∃ r, ((l[n]?).bind fun x => (body n x s).bind (after (back body fin l n))) = some r
    rw [List.getElem?_eq_getElem hn]
    simp only [Option.bind_some, hq]
    cases q with
    | inl s' => exact back_ok l hb hf n s' (by omega)
    | inr r => exact ⟨r, rfl⟩
theorem callJ (tr all : List Bs) (h1 : tr.length ≤ 1000000000) (h2 : all.length ≤ 1000000000) : ∃ x, message_Client_J1 tr all = some x ∧ gateref2_ClientOf_J2 tr all = some x := by
  unfold message_Client_J1 gateref2_ClientOf_J2
  rw [if_pos h2]
  cases all with
  | nil => exact ⟨([], 0), rfl, rfl⟩
  | cons a l =>
    rw [if_neg (by simp; omega)]
    have hE : (fun (s : Unit) => message_Client_E2 (a :: l)) = fun (s : Unit) => gateref2_ClientOf_E3 (a :: l) := by
      funext s
      unfold message_Client_E2 gateref2_ClientOf_E3
      rw [if_neg (by simp; omega)]
    have hB : ∀ k x, message_Client_L2 tr k x = gateref2_ClientOf_L3 tr k x := fun _ _ => rfl
    rw [hE]
    obtain ⟨x, hx⟩ := back_ok (body := fun (k : Nat) (x : Bs) (s : Unit) => gateref2_ClientOf_L3 tr k x) (fin := fun (s : Unit) => gateref2_ClientOf_E3 (a :: l)) (a :: l) (fun k x s => by
      unfold gateref2_ClientOf_L3
      rw [contains_any tr x h1]
      simp only [Option.bind_some]
      cases tr.any fun y => decide (x = y)
      · exact ⟨_, rfl⟩
      · exact ⟨_, rfl⟩) (fun s => ⟨(a, 0), rfl⟩) (a :: l).length () (Nat.le_refl _)
    exact ⟨x, hx, by rw [if_pos h2]; exact hx⟩
theorem callTail (r : S_api_Request) (tr : List Bs) (hvp : hvP 50 2000 r.Headers) (h1 : tr.length ≤ 1000000000) :
    ∃ x, ((m_message_Values r.Headers xffL).bind fun (r10 : (List Bs)) => (m_message_Parts r10).bind fun (r12 : (List Bs)) => if decide (r.From ≠ []) then (if r12.length + 1 ≤ 1000000000 then (message_Client_J1 tr (r12 ++ [r.From])) else none) else (message_Client_J1 tr r12)) = some x ∧ gateref2_ClientOf_E1 r tr = some x := by
  have hl := hvp.1
  have hx := values_eq r.Headers xffL (by omega) (hvP_nm hvp) ⟨rfl, by decide⟩
  have hp := pts_len _ (vals_vl hvp xffL)
  unfold gateref2_ClientOf_E1
  rw [hx.1, hx.2]
  simp only [Option.bind_some]
  rw [parts_msg _ (vals_vl hvp xffL), parts_ref _ (vals_vl hvp xffL)]
  simp only [Option.bind_some]
  by_cases hf : r.From = []
  · rw [if_neg (by simpa using hf), if_neg (by simpa using hf)]
    exact callJ tr _ h1 (by omega)
  · rw [if_pos (by simpa using hf), if_pos (by omega), if_pos (by simpa using hf), if_pos (by omega)]
    exact callJ tr _ h1 (by simp; omega)
def badT (x : Bs) : Bool := decide (x = []) || !fldB x
theorem all_not : ∀ l : List Bs, (l.all fun y => !badT y) = !l.any badT
  | [] => rfl
  | y :: l => by rw [List.all_cons, List.any_cons, all_not l, Bool.not_or]
theorem client_same (r : S_api_Request) (tr : List Bs) (hr : rqP r) (ht : tr.length ≤ 1000 ∧ ∀ x, x ∈ tr → x.length ≤ 1000) : ∃ x, m_message_Client r tr = some x ∧ m_gateref2_ClientOf r tr = some x := by
  obtain ⟨e, e1, e2, e3⟩ := request_zero r hr
  unfold m_message_Client m_gateref2_ClientOf
  rw [e1, e2]
  simp only [Option.bind_some]
  by_cases h0 : e = 0
  · obtain ⟨h1, h2, hH⟩ := e3 h0
    obtain ⟨hvp, hasc⟩ := good_hv h1
    by_cases h50 : 50 < (tr.length : Int)
    · rw [if_neg (by simpa using h0), if_pos (by simpa using h50), if_neg (by simpa using h0), if_pos (by simpa using h50)]
      exact ⟨_, rfl, rfl⟩
    · rw [if_neg (by simpa using h0), if_neg (by simpa using h50), if_neg (by simpa using h0), if_neg (by simpa using h50)]
      have hc : m_slices_ContainsFunc_L_string_string_ tr (fun (a0 : Bs) => m_message_Client_1 a0) = some (tr.any badT) :=
        gCon_eq tr (p := fun (a0 : Bs) => m_message_Client_1 a0) badT (by omega) fun x hx => by
          unfold m_message_Client_1 message_Client_1_J1 badT
          rw [isField_eq x (by have := ht.2 x hx; omega)]
          by_cases hx0 : x = []
          · rw [if_pos (by simpa using hx0)]; simp [hx0]
          · rw [if_neg (by simpa using hx0)]; simp [hx0]
      obtain ⟨x, x1, x2⟩ := callTail r tr hvp (by omega)
      have hall := all_not tr
      have hR : (if tr.length ≤ 1000000000 then forL (fun (k : Nat) (x : Bs) (s : Unit) => gateref2_ClientOf_L1 k x) (fun (s : Unit) => gateref2_ClientOf_E1 r tr) 0 tr () else none) = some (if !tr.any badT then x else ([], 3)) := by
        rw [if_pos (by omega), forL_all (p := fun _ y => !badT y) (e := x) (r0 := ([], 3)) x2 tr 0 (fun j y _ hj => ?_), allI_all, hall]
        have hy := ht.2 y (List.mem_of_getElem? (by simpa using hj))
        unfold gateref2_ClientOf_L1 gateref2_ClientOf_J4 badT
        rw [field_eq, isField_eq y (by omega)]
        by_cases hx0 : y = []
        · rw [if_pos (by simpa using hx0)]; simp [hx0]
        · rw [if_neg (by simpa using hx0)]; simp [hx0]; cases fldB y <;> rfl
      rw [hc, hR]
      simp only [Option.bind_some]
      cases tr.any badT
      · exact ⟨x, x1, rfl⟩
      · exact ⟨_, rfl, rfl⟩
  · rw [if_pos (by simpa using h0), if_pos (by simpa using h0)]
    exact ⟨_, rfl, rfl⟩
theorem eqH_self (l : List S_api_Header) (h : l.length ≤ 1000000000) : m_slices_Equal_L_api_Header_api_Header_ l l = some true :=
  gEql_self (fun x7 x10 : S_api_Header => !((x7.Name == x10.Name) && ((x7.Value == x10.Value) && true))) (fun x => by simp) l h
theorem same_self (a : S_api_Request) (h : a.Headers.length ≤ 1000000000) : m_gateref2_SameRequest a a = some true := by
  unfold m_gateref2_SameRequest gateref2_SameRequest_J1
  simp [eqH_self _ h]
theorem lawJ2 (r2 : S_api_Request × S_gatemake_Stream) (r4 : Bs × S_gatemake_Stream) (tr : List Bs) (h2 : rqP r2.1) (h4 : r4.1.length ≤ 100) (ht : tr.length ≤ 1000 ∧ ∀ x, x ∈ tr → x.length ≤ 1000) : Ok (gatelaw2_RequestsForwarded_J2 r2 r4 tr) (· = true) := by
  obtain ⟨x, x1, x2, x3⟩ := forward_same r2.1 r4.1 h2 (by omega)
  obtain ⟨y, y1, y2⟩ := client_same r2.1 tr h2 ht
  unfold gatelaw2_RequestsForwarded_J2 gatelaw2_RequestsForwarded_J3
  rw [x1, x2, y1, y2]
  simp only [Option.bind_some]
  rw [same_self _ x3, spoken_eq]
  simp only [Option.bind_some, decide_true, if_true]
  exact ⟨true, rfl, rfl⟩
theorem requestsForwarded_plain (L : List Int) : m_gatelaw2_RequestsForwarded L = some true := by
  refine ok_eq ?_
  unfold m_gatelaw2_RequestsForwarded
  refine ok_bind (request_ok (k := 0) ⟨by simp, by simp⟩ (by omega)) fun r2 h2 => ok_bind (someB_ok h2.2 (by omega) 100 _ ⟨by simp, by simp⟩ (by decide)) fun r4 h4 => ok_bind (range_ok h4.2 (by omega) 0 3 (by omega)) fun r6 h6 => ?_
  obtain ⟨m, hm⟩ : ∃ m : Nat, r6.1 = (m : Int) := ⟨r6.1.toNat, by omega⟩
  have h3 := h6.1
  rw [hm] at h3 ⊢
  rw [Int.toNat_natCast]
  refine ok_g (by omega) ?_
  refine ok_rng (fun j (q : List Int × Int × List Bs) => j ≤ m ∧ SB (400 + (j : Int)) (S_gatemake_Stream.mk q.1 q.2.1) ∧ q.2.2.length ≤ j ∧ ∀ x, x ∈ q.2.2 → x.length ≤ 100) m 0 _ ⟨by omega, h6.2.mono (by omega), by simp, by simp⟩ ?_ ?_
  · rintro j ⟨c5, c6, l7⟩ _ hj ⟨g0, g1, g2, g3⟩
    simp only at g1 g2 g3 ⊢
    unfold gatelaw2_RequestsForwarded_L1
    refine ok_bind (someB_ok g1 (by omega) 100 _ ⟨by simp, by simp⟩ (by decide)) fun q hq => ok_g (by omega) (ok_some ?_)
    refine ⟨by omega, hq.2.mono (by omega), by simp; omega, fun x hx => ?_⟩
    rcases List.mem_append.1 hx with h | h
    · exact g3 x h
    · rw [List.mem_singleton.1 h]; exact hq.1
  · rintro ⟨c5, c6, l7⟩ ⟨g0, g1, g2, g3⟩
    simp only at g1 g2 g3 ⊢
    unfold gatelaw2_RequestsForwarded_E1
    refine ok_bind (flip_ok g1 (by omega) 15 (by omega)) fun q hq => ok_if (fun _ => ?_) (fun _ => lawJ2 r2 r4 l7 h2.1 h4.1 ⟨by omega, fun x hx => by have := g3 x hx; omega⟩)
    refine ok_bind (someB_ok hq (by omega) 100 _ ⟨by simp, by simp⟩ (by decide)) fun q hq => ok_g (by omega) (lawJ2 r2 r4 _ h2.1 h4.1 ⟨by simp; omega, fun x hx => ?_⟩)
    rcases List.mem_append.1 hx with h | h
    · have := g3 x h; omega
    · rw [List.mem_singleton.1 h]; have := hq.1; omega
end Go.Proofs.YtgjfcdcpiamikaaGreatDoor
