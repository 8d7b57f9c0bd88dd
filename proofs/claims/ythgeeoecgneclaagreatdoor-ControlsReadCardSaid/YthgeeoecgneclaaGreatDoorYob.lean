/- Plain: the law ControlsRead is true for every list of numbers. -/
import Derived.Test.YthgeeoecgneclaaGreatDoorPtYo
import Derived.Test.YthgeeoecgneclaaGreatDoorHaYo
namespace Go.Proofs.YthgeeoecgneclaaGreatDoor
set_option linter.unusedVariables false
set_option maxRecDepth 20000
/-- parts of values, the program's and the reference's -/
def vlP (V : List Bs) : Prop := V.length ≤ 1000 ∧ ∀ v, v ∈ V → v.length ≤ 2000
theorem partsL2 : ∀ (l : List Bs) (k : Nat) (q : List Bs), (∀ x, x ∈ l → x.length ≤ 2000) → q.length + l.length ≤ 100000000 →
    forL (fun (k : Nat) (x : Bs) (s : (List Bs)) => message_Parts_L2 k x s) (fun (s : (List Bs)) => message_Parts_E2 s) k l q = some (.inl (q ++ tfB l))
  | [], k, q, _, _ => by show some (Sum.inl q) = _; simp [tfB]
  | x :: l, k, q, h, hl => by
    simp only [List.length_cons] at hl
    have hx := h x (by simp)
    have hst : message_Parts_L2 k x q = some (.inl (q ++ tfB [x])) := by
      unfold message_Parts_L2 message_Parts_J3
      rw [trim_eq 32 (by decide) x (by omega)]
      simp only [Option.bind_some]
      by_cases h0 : trL 32 (trR 32 x) = []
      · rw [if_neg (by simpa using h0)]
        simp [tfB, h0]
      · rw [if_pos (by simpa using h0), if_pos (by omega)]
        simp [tfB, h0]
    show (message_Parts_L2 k x q).bind _ = _
    rw [hst]
    have h1 := tfB_len [x]
    refine Eq.trans (partsL2 l (k + 1) (q ++ tfB [x]) (fun y hy => h y (List.mem_cons_of_mem _ hy)) (by simp only [List.length_append, List.length_cons, List.length_nil] at h1 ⊢; omega)) ?_
    rw [List.append_assoc, ← tfB_app]; rfl
theorem partsR : ∀ (l : List Bs) (k : Nat) (q : List Bs), (∀ x, x ∈ l → x.length ≤ 2000) → q.length + l.length ≤ 100000000 →
    forL (fun (k : Nat) (x : Bs) (s : (List Bs)) => gateref2_parts_L1 k x s) (fun (s : (List Bs)) => gateref2_parts_E1 s) k l q = some (q ++ tfB l)
  | [], k, q, _, _ => by show some q = _; simp [tfB]
  | x :: l, k, q, h, hl => by
    simp only [List.length_cons] at hl
    have hx := h x (by simp)
    have hst : gateref2_parts_L1 k x q = some (.inl (q ++ tfB [x])) := by
      unfold gateref2_parts_L1 gateref2_parts_J2
      rw [trim_eq 32 (by decide) x (by omega)]
      simp only [Option.bind_some]
      by_cases h0 : trL 32 (trR 32 x) = []
      · rw [if_neg (by simpa using h0)]
        simp [tfB, h0]
      · rw [if_pos (by simpa using h0), if_pos (by omega)]
        simp [tfB, h0]
    show (gateref2_parts_L1 k x q).bind _ = _
    rw [hst]
    have h1 := tfB_len [x]
    refine Eq.trans (partsR l (k + 1) (q ++ tfB [x]) (fun y hy => h y (List.mem_cons_of_mem _ hy)) (by simp only [List.length_append, List.length_cons, List.length_nil] at h1 ⊢; omega)) ?_
    rw [List.append_assoc, ← tfB_app]; rfl
theorem pieces_len (V : List Bs) (h : ∀ v, v ∈ V → v.length ≤ 2000) : (V.map (spl 44)).flatten.length ≤ V.length * 2001 ∧ ∀ x, x ∈ (V.map (spl 44)).flatten → x.length ≤ 2000 := by
  induction V with
  | nil => simp
  | cons v V ih =>
    obtain ⟨h1, h2⟩ := ih fun x hx => h x (List.mem_cons_of_mem _ hx)
    have h3 := spl_len 44 v
    have h4 := h v (by simp)
    simp only [List.map_cons, List.flatten_cons, List.length_append, List.length_cons, Nat.succ_mul]
    refine ⟨by omega, fun x hx => ?_⟩
    rcases List.mem_append.1 hx with hx | hx
    · have := spl_piece 44 v x hx; omega
    · exact h2 x hx
theorem partsL1 : ∀ (V : List Bs) (k : Nat) (q : List Bs), (∀ v, v ∈ V → v.length ≤ 2000) → q.length + V.length * 2001 ≤ 90000000 →
    forL (fun (k : Nat) (x : Bs) (s : (List Bs)) => message_Parts_L1 k x s) (fun (s : (List Bs)) => message_Parts_E1 s) k V q = some (q ++ ptsB V)
  | [], k, q, _, _ => by show some q = _; simp [ptsB, tfB]
  | v :: V, k, q, h, hl => by
    simp only [List.length_cons, Nat.succ_mul] at hl
    have hv := h v (by simp)
    have h3 := spl_len 44 v
    have hst : message_Parts_L1 k v q = some (.inl (q ++ tfB (spl 44 v))) := by
      unfold message_Parts_L1 m_strings_Split
      rw [if_pos ⟨by omega, by simp⟩, splitL_one]
      simp only [Option.bind_some]
      rw [if_pos (by omega)]
      exact partsL2 (spl 44 v) 0 q (fun x hx => by have := spl_piece 44 v x hx; omega) (by omega)
    show (message_Parts_L1 k v q).bind _ = _
    rw [hst]
    have h1 := tfB_len (spl 44 v)
    refine Eq.trans (partsL1 V (k + 1) (q ++ tfB (spl 44 v)) (fun y hy => h y (List.mem_cons_of_mem _ hy)) (by simp only [List.length_append]; omega)) ?_
    unfold ptsB
    rw [List.map_cons, List.flatten_cons, tfB_app, List.append_assoc]
theorem parts_eq (V : List Bs) (h : vlP V) : m_message_Parts V = some (ptsB V) ∧ m_gateref2_parts V = some (ptsB V) := by
  obtain ⟨h1, h2⟩ := h
  constructor
  · unfold m_message_Parts
    rw [if_pos (by omega), partsL1 V 0 [] h2 (by simp; omega)]; rfl
  · have hj := join_le 2000 [44] V h2
    have hl : V.length * (2000 + ([44] : Bs).length) ≤ 1000 * 2001 := Nat.mul_le_mul h1 (by simp)
    have hp := pieces_len V h2
    unfold m_gateref2_parts m_strings_Join m_strings_Split
    rw [if_pos ⟨by omega, by omega⟩]
    simp only [Option.bind_some]
    rw [if_pos ⟨by omega, by simp⟩, splitL_one]
    simp only [Option.bind_some]
    cases hV : V with
    | nil =>
      have e : spl 44 (Lib.join [] [44]) = [[]] := rfl
      rw [e, if_pos (by simp), partsR [[]] 0 [] (by simp) (by simp)]
      rfl
    | cons v V' =>
      rw [spl_join 44 (v :: V') (by simp), ← hV, if_pos (by omega), partsR _ 0 [] hp.2 (by have := hp.1; simp only [List.length_nil]; omega)]
      rfl
/-- one part of a control -/
def flN : List Bs := [[110, 111, 45, 115, 116, 111, 114, 101], [110, 111, 45, 99, 97, 99, 104, 101], [112, 114, 105, 118, 97, 116, 101], [112, 117, 98, 108, 105, 99], [109, 117, 115, 116, 45, 114, 101, 118, 97, 108, 105, 100, 97, 116, 101], [111, 110, 108, 121, 45, 105, 102, 45, 99, 97, 99, 104, 101, 100]]
def cnN : List Bs := [[109, 97, 120, 45, 97, 103, 101], [115, 45, 109, 97, 120, 97, 103, 101], [115, 116, 97, 108, 101, 45, 119, 104, 105, 108, 101, 45, 114, 101, 118, 97, 108, 105, 100, 97, 116, 101], [115, 116, 97, 108, 101, 45, 105, 102, 45, 101, 114, 114, 111, 114], [109, 97, 120, 45, 115, 116, 97, 108, 101], [109, 105, 110, 45, 102, 114, 101, 115, 104]]
def idxB (ns : List Bs) (nm : Bs) : Int := fdx (fun x => decide (nm = x)) 0 ns
theorem index_eq (ns : List Bs) (nm : Bs) (h : ns.length ≤ 1000000000) : m_slices_Index_L_string_string_ ns nm = some (idxB ns nm) :=
  gIdx_eq ns (p := fun x => some (decide (nm = x))) (fun x => decide (nm = x)) h fun _ _ => rfl
theorem idx_range {ns : List Bs} {nm : Bs} (h : 0 ≤ idxB ns nm) : ∃ j : Nat, idxB ns nm = (j : Int) ∧ j < ns.length ∧ nm ∈ ns := by
  obtain ⟨_, x, h2, h3⟩ := (fdx_lo (fun x => decide (nm = x)) ns 0).2 h
  refine ⟨(idxB ns nm).toNat, by omega, ?_, ?_⟩
  · have := (List.getElem?_eq_some_iff.1 h2).1
    exact this
  · have e : nm = x := by simpa using h3
    rw [e]; exact List.mem_of_getElem? h2
theorem fl_cn : ∀ x, x ∈ flN → idxB cnN x < 0 := by decide +kernel
theorem fl_at : ∀ j : Nat, j < 6 → at? ([0, 1, 2, 3, 4, 5] : List Int) (j : Int) = some (j : Int) ∧ ck_S_api_Control_bool (j : Int) = true := by decide +kernel
theorem cn_at : ∀ j : Nat, j < 6 → at? ([6, 7, 8, 9, 10, 11] : List Int) (j : Int) = some (6 + (j : Int)) ∧ ck_S_api_Control_int (6 + (j : Int)) = true := by decide +kernel
def nOf (v : Bs) : Int := if okN 9 v then valB v else 0
def sOK (v : Bs) : Bool := okN 9 v && !outP (valB v) 0 100000000
theorem seconds_eq (v : Bs) (h : v.length ≤ 1000000) : m_cache_seconds v = some (nOf v, sOK v) := by
  have hk : m_kit_Number v 9 = some (if okN 9 v then valB v else 0, okN 9 v) := kit_number v 9 (by omega) h
  unfold m_cache_seconds m_kit_Small cache_seconds_J1 nOf sOK
  rw [hk]
  simp only [Option.bind_some]
  cases okN 9 v
  · rfl
  · simp only [if_true, out_eq, Option.bind_some, Bool.true_and]
def numC (c : S_api_Control) (i n : Int) : S_api_Control := if gt_S_api_Control_int c (6 + i) = -1 ∨ n < gt_S_api_Control_int c (6 + i) then st_S_api_Control_int c (6 + i) n else c
def toldB (c : S_api_Control) (x : Bs) : Bool × S_api_Control :=
  let r := Lib.cut x [61]
  if !tokB r.1 || (r.2.2 && !sOK r.2.1) then (false, c)
  else if 0 ≤ idxB flN (lo r.1) then (!r.2.2, st_S_api_Control_bool c (idxB flN (lo r.1)) true)
  else if idxB cnN (lo r.1) < 0 then (true, c)
  else (r.2.2, numC c (idxB cnN (lo r.1)) (nOf r.2.1))
theorem told_eq (c : S_api_Control) (x : Bs) (h : x.length ≤ 1000000) : m_cache_told c x = some (toldB c x) := by
  obtain ⟨c1, c2, c3, c4⟩ := cut1_len x 61
  unfold m_cache_told toldB m_strings_Cut
  rw [if_pos (by omega)]
  simp only [Option.bind_some]
  generalize Lib.cut x [61] = r at *
  rw [seconds_eq _ (by omega), isToken_eq _ (by omega)]
  simp only [Option.bind_some]
  cases ht : tokB r.1
  · rfl
  simp only [Bool.not_true, Bool.false_or]
  cases hs : (r.2.2 && !sOK r.2.1)
  · simp only [Bool.false_eq_true, if_false]
    have hlow : m_strings_ToLower r.1 = some (lo r.1) := by
      unfold m_strings_ToLower
      rw [if_pos ⟨by omega, tok_asc ht⟩]
    have hf : m_cache_flags = some (flN, [0, 1, 2, 3, 4, 5]) := rfl
    have hc : m_cache_numbers = some (cnN, [6, 7, 8, 9, 10, 11]) := rfl
    rw [hlow, hf, hc]
    simp only [Option.bind_some]
    rw [index_eq flN (lo r.1) (by decide), index_eq cnN (lo r.1) (by decide)]
    simp only [Option.bind_some]
    by_cases h0 : 0 ≤ idxB flN (lo r.1)
    · obtain ⟨j, j1, j2, _⟩ := idx_range h0
      obtain ⟨a1, a2⟩ := fl_at j j2
      rw [if_pos (by simpa using h0), if_pos h0, j1, a1]
      simp only [Option.bind_some]
      rw [if_pos a2]
    · rw [if_neg (by simpa using h0), if_neg h0]
      by_cases h1 : idxB cnN (lo r.1) < 0
      · rw [if_pos (by simpa using h1), if_pos h1]
      · rw [if_neg (by simpa using h1), if_neg h1]
        obtain ⟨j, j1, j2, _⟩ := idx_range (show 0 ≤ idxB cnN (lo r.1) by omega)
        obtain ⟨a1, a2⟩ := cn_at j j2
        unfold cache_told_J2 cache_told_J1 numC
        rw [j1, a1]
        simp only [Option.bind_some, a2, if_true]
        by_cases hg : gt_S_api_Control_int c (6 + (j : Int)) = -1
        · rw [if_pos (by simpa using hg), if_pos (Or.inl hg)]
        · rw [if_neg (by simpa using hg)]
          by_cases hn : nOf r.2.1 < gt_S_api_Control_int c (6 + (j : Int))
          · rw [if_pos (by simpa using hn), if_pos (Or.inr hn)]
          · rw [if_neg (by simpa using hn), if_neg (by simp [hg, hn])]
  · simp
/-- states of the loops -/
abbrev Tst := Bool × Bool × Int × Int × Bool × Bool × Bool × Bool × Int × Int × Int × Int
def tc (s : Tst) : S_api_Control := S_api_Control.mk s.1 s.2.1 s.2.2.2.2.1 s.2.2.2.2.2.1 s.2.2.2.2.2.2.1 s.2.2.2.2.2.2.2.1 s.2.2.2.2.2.2.2.2.1 s.2.2.2.2.2.2.2.2.2.1 s.2.2.2.2.2.2.2.2.2.2.1 s.2.2.2.2.2.2.2.2.2.2.2 s.2.2.1 s.2.2.2.1
def ct (c : S_api_Control) : Tst := (c.NoStore, c.NoCache, c.MaxStale, c.MinFresh, c.Private, c.Public, c.Must, c.Only, c.MaxAge, c.Shared, c.Stale, c.OnError)
def cOK (c : S_api_Control) : Prop := ∀ x, ck_S_api_Control_int x = true → -1 ≤ gt_S_api_Control_int c x
theorem gt_stb (c : S_api_Control) (x y : Int) (b : Bool) : gt_S_api_Control_int (st_S_api_Control_bool c y b) x = gt_S_api_Control_int c x := by
  unfold st_S_api_Control_bool
  (repeat' split) <;> rfl
theorem gt_sti (c : S_api_Control) (x y n : Int) : gt_S_api_Control_int (st_S_api_Control_int c y n) x = n ∨ gt_S_api_Control_int (st_S_api_Control_int c y n) x = gt_S_api_Control_int c x := by
  unfold st_S_api_Control_int
  (repeat' split) <;> unfold gt_S_api_Control_int <;> (repeat' split) <;> simp
theorem cOK_stb {c : S_api_Control} (h : cOK c) (y : Int) (b : Bool) : cOK (st_S_api_Control_bool c y b) := fun x hx => by rw [gt_stb]; exact h x hx
theorem cOK_sti {c : S_api_Control} (h : cOK c) (y n : Int) (hn : -1 ≤ n) : cOK (st_S_api_Control_int c y n) := fun x hx => by
  rcases gt_sti c x y n with e | e
  · rw [e]; exact hn
  · rw [e]; exact h x hx
abbrev zzT : S_api_Control × Int := (S_api_Control.mk false false false false false false 0 0 0 0 0 0, 9)
def stT (c : S_api_Control) (x : Bs) : Tst ⊕ (S_api_Control × Int) := if (toldB c x).1 then .inl (ct (toldB c x).2) else .inr zzT
theorem parseL2_eq (k : Nat) (x : Bs) (c : S_api_Control) (h : x.length ≤ 1000000) : cache_parse_L2 k x c.NoStore c.NoCache c.MaxStale c.MinFresh c.Private c.Public c.Must c.Only c.MaxAge c.Shared c.Stale c.OnError = some (stT c x) := by
  unfold cache_parse_L2 stT
  show (m_cache_told c x).bind _ = _
  rw [told_eq c x h]
  simp only [Option.bind_some]
  cases (toldB c x).1 <;> rfl
theorem refL2_eq (k : Nat) (x : Bs) (c : S_api_Control) (h : x.length ≤ 1000000) (hc : cOK c) : gateref2_ControlOf_L2 k x c.NoStore c.NoCache c.MaxStale c.MinFresh c.Private c.Public c.Must c.Only c.MaxAge c.Shared c.Stale c.OnError = some (stT c x) ∧ cOK (toldB c x).2 := by
  obtain ⟨c1, c2, c3, c4⟩ := cut1_len x 61
  have hcut0 : (Lib.cut x [61]).2.2 = false → okN 9 (Lib.cut x [61]).2.1 = false := fun h2 => by
    rcases first_occ 61 x with h3 | ⟨p, q, h3, h4⟩
    · rw [cut_no 61 x h3]; rfl
    · subst h3; rw [cut_app 61 p q h4] at h2; cases h2
  have hd : toldB c x = (let r := Lib.cut x [61]
    if !tokB r.1 || (r.2.2 && !sOK r.2.1) then (false, c)
    else if 0 ≤ idxB flN (lo r.1) then (!r.2.2, st_S_api_Control_bool c (idxB flN (lo r.1)) true)
    else if idxB cnN (lo r.1) < 0 then (true, c)
    else (r.2.2, numC c (idxB cnN (lo r.1)) (nOf r.2.1))) := rfl
  unfold gateref2_ControlOf_L2 stT m_strings_Cut
  rw [if_pos (show x.length ≤ 1000000000 by omega), hd]
  simp only [Option.bind_some]
  generalize Lib.cut x [61] = r at *
  obtain ⟨w, w1, w2, w3⟩ := ref_number r.2.1 9 (by omega) (by omega)
  have w1' : m_gateref2_Number r.2.1 9 = some (w, okN 9 r.2.1) := w1
  rw [w1', token_eq _ (by omega)]
  simp only [Option.bind_some]
  have hT : gateref2_ControlOf_J4 c.NoStore c.NoCache c.MaxStale c.MinFresh c.Private c.Public c.Must c.Only c.MaxAge c.Shared c.Stale c.OnError r (w, okN 9 r.2.1) true = some (.inr zzT) := rfl
  cases ht : tokB r.1
  · simp only [Bool.not_false, if_true, Bool.true_or, Bool.false_eq_true, if_false]
    exact ⟨hT, hc⟩
  simp only [Bool.not_true, Bool.false_eq_true, if_false, Bool.false_or]
  have hlow : m_strings_ToLower r.1 = some (lo r.1) := by
    unfold m_strings_ToLower
    rw [if_pos ⟨by omega, tok_asc ht⟩]
  have hfn : m_gateref2_flagNames = some flN := rfl
  have hfo : m_gateref2_flagsOf = some [0, 1, 2, 3, 4, 5] := rfl
  have hcn : m_gateref2_countNames = some cnN := rfl
  have hco : m_gateref2_countsOf = some [6, 7, 8, 9, 10, 11] := rfl
  have hJ5n : ∀ d : S_api_Control, idxB cnN (lo r.1) < 0 → gateref2_ControlOf_J5 r (w, okN 9 r.2.1) (lo r.1) d.NoStore d.NoCache d.Private d.Public d.Must d.Only d.MaxAge d.Shared d.Stale d.OnError d.MaxStale d.MinFresh = some (.inl (ct d)) := fun d hneg => by
    unfold gateref2_ControlOf_J5 gateref2_ControlOf_J3
    rw [hcn]
    simp only [Option.bind_some]
    rw [index_eq cnN (lo r.1) (by decide)]
    simp only [Option.bind_some]
    rw [if_neg (by simp; omega)]
    rfl
  have key : r.2.2 = false ∨ (okN 9 r.2.1 = true ∧ outP w 0 100000000 = false) → gateref2_ControlOf_J4 c.NoStore c.NoCache c.MaxStale c.MinFresh c.Private c.Public c.Must c.Only c.MaxAge c.Shared c.Stale c.OnError r (w, okN 9 r.2.1) false = some (if (if 0 ≤ idxB flN (lo r.1) then (!r.2.2, st_S_api_Control_bool c (idxB flN (lo r.1)) true) else if idxB cnN (lo r.1) < 0 then (true, c) else (r.2.2, numC c (idxB cnN (lo r.1)) (nOf r.2.1))).1 = true then .inl (ct (if 0 ≤ idxB flN (lo r.1) then (!r.2.2, st_S_api_Control_bool c (idxB flN (lo r.1)) true) else if idxB cnN (lo r.1) < 0 then (true, c) else (r.2.2, numC c (idxB cnN (lo r.1)) (nOf r.2.1))).2) else .inr zzT) ∧ cOK (if 0 ≤ idxB flN (lo r.1) then (!r.2.2, st_S_api_Control_bool c (idxB flN (lo r.1)) true) else if idxB cnN (lo r.1) < 0 then (true, c) else (r.2.2, numC c (idxB cnN (lo r.1)) (nOf r.2.1))).2 := fun hh => by
    unfold gateref2_ControlOf_J4
    rw [hlow, hfn]
    simp only [Bool.false_eq_true, if_false, Option.bind_some]
    rw [index_eq flN (lo r.1) (by decide)]
    simp only [Option.bind_some]
    by_cases h0 : 0 ≤ idxB flN (lo r.1)
    · obtain ⟨j, j1, j2, j3⟩ := idx_range h0
      obtain ⟨a1, a2⟩ := fl_at j j2
      have hneg := fl_cn _ j3
      rw [if_pos (by simpa using h0), if_pos h0, hfo]
      simp only [Option.bind_some]
      rw [j1, a1]
      simp only [Option.bind_some]
      rw [if_pos a2]
      refine ⟨?_, cOK_stb hc _ _⟩
      cases r.2.2
      · simp only [Bool.false_eq_true, if_false, Bool.not_false, if_true]
        exact hJ5n (st_S_api_Control_bool c (j : Int) true) hneg
      · simp
    · rw [if_neg (by simpa using h0), if_neg h0]
      by_cases h1 : idxB cnN (lo r.1) < 0
      · rw [if_pos h1]
        exact ⟨hJ5n c h1, hc⟩
      · rw [if_neg h1]
        obtain ⟨j, j1, j2, _⟩ := idx_range (show 0 ≤ idxB cnN (lo r.1) by omega)
        obtain ⟨a1, a2⟩ := cn_at j j2
        have hcd : ∀ n, -1 ≤ n → cOK (numC c (j : Int) n) := fun n hn => by
          unfold numC
          split
          · exact cOK_sti hc _ n hn
          · exact hc
        unfold gateref2_ControlOf_J5
        rw [hcn]
        simp only [Option.bind_some]
        rw [index_eq cnN (lo r.1) (by decide)]
        simp only [Option.bind_some]
        rw [if_pos (by simp; omega)]
        rcases Bool.eq_false_or_eq_true r.2.2 with h2 | h2
        · rcases hh with h3 | ⟨h3, h4⟩
          · rw [h3] at h2; cases h2
          · have hw := w2 h3
            have hn : nOf r.2.1 = w := by unfold nOf; rw [h3, hw]; rfl
            have hw0 : 0 ≤ w := by rw [outP_in] at h4; simp at h4; omega
            rw [h2, hco, j1, hn]
            simp only [Bool.not_true, Bool.false_eq_true, if_false, Option.bind_some, if_true]
            rw [a1]
            simp only [Option.bind_some]
            rw [if_pos a2]
            refine ⟨?_, hcd w (by omega)⟩
            have hge := hc _ a2
            unfold numC gateref2_ControlOf_J3
            show (if (decide (gt_S_api_Control_int c (6 + (j : Int)) < 0) || decide (w < gt_S_api_Control_int c (6 + (j : Int)))) = true then _ else _) = _
            by_cases hg : gt_S_api_Control_int c (6 + (j : Int)) = -1 ∨ w < gt_S_api_Control_int c (6 + (j : Int))
            · rw [if_pos (by simp only [Bool.or_eq_true, decide_eq_true_eq]; omega), if_pos hg]; rfl
            · rw [if_neg (by simp only [Bool.or_eq_true, decide_eq_true_eq]; omega), if_neg hg]; rfl
        · rw [h2, j1]
          have hn : nOf r.2.1 = 0 := by unfold nOf; rw [hcut0 h2]; rfl
          rw [hn]
          exact ⟨rfl, hcd 0 (by omega)⟩
  cases h2 : r.2.2
  · rw [h2] at key
    simp only [Bool.false_and, Bool.false_eq_true, if_false]
    exact key (.inl rfl)
  · rw [h2] at key
    simp only [if_true, Bool.true_and]
    cases h3 : okN 9 r.2.1
    · have hs : sOK r.2.1 = false := by unfold sOK; rw [h3]; rfl
      rw [h3] at hT
      rw [hs]
      simp only [Bool.not_false, if_true, Bool.false_eq_true, if_false]
      exact ⟨hT, hc⟩
    · have hw := w2 h3
      rw [in_eq]
      simp only [Bool.not_true, Bool.false_eq_true, if_false, Option.bind_some, Bool.not_not]
      have hs : sOK r.2.1 = !outP w 0 100000000 := by unfold sOK; rw [h3, hw]; rfl
      rw [hs, Bool.not_not]
      rw [h3] at key hT
      cases h4 : outP w 0 100000000
      · simp only [Bool.false_eq_true, if_false]
        exact key (.inr ⟨rfl, h4⟩)
      · simp only [if_true, Bool.false_eq_true, if_false]
        exact ⟨hT, hc⟩
/-- what right headers say -/
abbrev ccL : Bs := [99, 97, 99, 104, 101, 45, 99, 111, 110, 116, 114, 111, 108]
abbrev c0 : Tst := (false, false, -1, -1, false, false, false, false, -1, -1, -1, -1)
theorem parse_start (l : List S_api_Header) : m_cache_parse l = cache_parse_E1 l false false (-1) (-1) false false false false (-1) (-1) (-1) (-1) := rfl
theorem ref_start (l : List S_api_Header) : m_gateref2_ControlOf l = gateref2_ControlOf_E1 l false false (-1) (-1) false false false false (-1) (-1) (-1) (-1) := rfl
theorem c0_ok : cOK (tc c0) := fun x hx => by
  unfold ck_S_api_Control_int at hx
  simp only [Bool.or_eq_true, decide_eq_true_eq] at hx
  rcases hx with ((((rfl | rfl) | rfl) | rfl) | rfl) | rfl <;> decide
theorem valsB_ok {l : List S_api_Header} (h0 : hdsE l = 0) (n : Bs) : vlP (valsB n l) := by
  have hcnt := hds_cnt h0
  have hok := hds_ok h0
  refine ⟨?_, fun v hv => ?_⟩
  · unfold valsB
    rw [List.length_map]
    have := (List.filter_sublist (p := nmB n) (l := l)).length_le
    omega
  · unfold valsB at hv
    obtain ⟨x, hx, rfl⟩ := List.mem_map.1 hv
    exact fld_len (hok x (List.mem_filter.1 hx).1).2
theorem ptsB_len (V : List Bs) (h : vlP V) : (ptsB V).length ≤ 3000000 := by
  have h1 := pieces_len V h.2
  have h2 := tfB_len (V.map (spl 44)).flatten
  have h3 : V.length * 2001 ≤ 1000 * 2001 := Nat.mul_le_mul h.1 (by omega)
  unfold ptsB
  omega
theorem parse_same (l : List S_api_Header) (h0 : hdsE l = 0) (hl : l.length ≤ 1000) (h2 : ∀ x, x ∈ l → nmOK x) : ∃ r, m_cache_parse l = some r ∧ m_gateref2_ControlOf l = some r := by
  have hv := values_eq l ccL hl h2 ⟨rfl, by decide⟩
  have hV := valsB_ok h0 ccL
  have hp := parts_eq _ hV
  have hpl := ptsB_len _ hV
  rw [parse_start, ref_start]
  unfold cache_parse_E1 gateref2_ControlOf_E1
  show ∃ r, (m_message_Values l ccL).bind _ = some r ∧ (m_gateref2_Values l ccL).bind _ = some r
  rw [hv.1, hv.2]
  simp only [Option.bind_some]
  rw [hp.1, hp.2]
  simp only [Option.bind_some]
  rw [if_pos (by omega), if_pos (by omega)]
  obtain ⟨r, r1, r2, _⟩ := forL_both (body := fun (k : Nat) (x : Bs) (s : Tst) => cache_parse_L2 k x s.1 s.2.1 s.2.2.1 s.2.2.2.1 s.2.2.2.2.1 s.2.2.2.2.2.1 s.2.2.2.2.2.2.1 s.2.2.2.2.2.2.2.1 s.2.2.2.2.2.2.2.2.1 s.2.2.2.2.2.2.2.2.2.1 s.2.2.2.2.2.2.2.2.2.2.1 s.2.2.2.2.2.2.2.2.2.2.2)
    (body' := fun (k : Nat) (x : Bs) (s : Tst) => gateref2_ControlOf_L2 k x s.1 s.2.1 s.2.2.1 s.2.2.2.1 s.2.2.2.2.1 s.2.2.2.2.2.1 s.2.2.2.2.2.2.1 s.2.2.2.2.2.2.2.1 s.2.2.2.2.2.2.2.2.1 s.2.2.2.2.2.2.2.2.2.1 s.2.2.2.2.2.2.2.2.2.2.1 s.2.2.2.2.2.2.2.2.2.2.2)
    (fin := fun (s : Tst) => cache_parse_E2 s.1 s.2.1 s.2.2.1 s.2.2.2.1 s.2.2.2.2.1 s.2.2.2.2.2.1 s.2.2.2.2.2.2.1 s.2.2.2.2.2.2.2.1 s.2.2.2.2.2.2.2.2.1 s.2.2.2.2.2.2.2.2.2.1 s.2.2.2.2.2.2.2.2.2.2.1 s.2.2.2.2.2.2.2.2.2.2.2)
    (fin' := fun (s : Tst) => gateref2_ControlOf_E2 s.1 s.2.1 s.2.2.1 s.2.2.2.1 s.2.2.2.2.1 s.2.2.2.2.2.1 s.2.2.2.2.2.2.1 s.2.2.2.2.2.2.2.1 s.2.2.2.2.2.2.2.2.1 s.2.2.2.2.2.2.2.2.2.1 s.2.2.2.2.2.2.2.2.2.2.1 s.2.2.2.2.2.2.2.2.2.2.2) (R := fun _ => True)
    (fun _ s => cOK (tc s)) (ptsB (valsB ccL l)) 0 c0 c0_ok (fun j x s _ hx hs => by
      obtain ⟨v, hv1, hv2, _⟩ := ptsB_mem (List.mem_of_getElem? hx)
      have hvl := hV.2 v hv1
      have a := parseL2_eq j x (tc s) (by omega)
      obtain ⟨b, b2⟩ := refL2_eq j x (tc s) (by omega) hs
      refine ⟨stT (tc s) x, a, b, ?_⟩
      unfold stT
      cases (toldB (tc s) x).1
      · exact trivial
      · exact b2) (fun s _ => ⟨_, rfl, rfl, trivial⟩)
  exact ⟨r, r1, r2⟩
/-- texts -/
theorem text_both (c : S_api_Control) : ∃ r, m_cache_Text c = some r ∧ m_gateref2_ControlText c = some r := by
  have hf : m_cache_flags = some (flN, [0, 1, 2, 3, 4, 5]) := rfl
  have hc : m_cache_numbers = some (cnN, [6, 7, 8, 9, 10, 11]) := rfl
  have hfn : m_gateref2_flagNames = some flN := rfl
  have hfo : m_gateref2_flagsOf = some [0, 1, 2, 3, 4, 5] := rfl
  have hcn : m_gateref2_countNames = some cnN := rfl
  have hco : m_gateref2_countsOf = some [6, 7, 8, 9, 10, 11] := rfl
  have hfl : ∀ x, x ∈ flN → x.length ≤ 30 := by decide
  have hcl : ∀ x, x ∈ cnN → x.length ≤ 30 := by decide
  have hfk : ∀ x, x ∈ ([0, 1, 2, 3, 4, 5] : List Int) → ck_S_api_Control_bool x = true := by decide
  have hck : ∀ x, x ∈ ([6, 7, 8, 9, 10, 11] : List Int) → ck_S_api_Control_int x = true := by decide
  have hE : ∀ l : List Bs, (l.length ≤ 20 ∧ ∀ x, x ∈ l → x.length ≤ 100) → ∃ r, m_strings_Join l [44, 32] = some r := fun l hl => by
    have hj := join_le 100 [44, 32] l hl.2
    have h3 : l.length * (100 + ([44, 32] : Bs).length) ≤ 20 * 102 := Nat.mul_le_mul hl.1 (by simp)
    unfold m_strings_Join
    rw [if_pos ⟨by omega, by omega⟩]
    exact ⟨_, rfl⟩
  have h2 : ∀ l : List Bs, (l.length ≤ 6 ∧ ∀ x, x ∈ l → x.length ≤ 100) → ∃ r, cache_Text_E1 c l = some r ∧ gateref2_ControlText_E1 c l = some r := fun l hl => by
    unfold cache_Text_E1 gateref2_ControlText_E1
    rw [hc, hco]
    simp only [Option.bind_some]
    rw [if_pos (by decide), if_pos (by decide)]
    obtain ⟨r, r1, r2, _⟩ := forL_two (R := fun _ => True) (body := fun (k : Nat) (x : Bs) (s : (List Bs)) => cache_Text_L2 c (cnN, [6, 7, 8, 9, 10, 11]) k x s) (body' := fun (k : Nat) (x : Int) (s : (List Bs)) => gateref2_ControlText_L2 c k x s) (fin := fun (s : (List Bs)) => cache_Text_E2 s) (fin' := fun (s : (List Bs)) => gateref2_ControlText_E2 s)
      (fun j (l : List Bs) => l.length ≤ 6 + j ∧ ∀ x, x ∈ l → x.length ≤ 100) cnN [6, 7, 8, 9, 10, 11] 0 l rfl ⟨by have := hl.1; omega, hl.2⟩ (fun j n o q _ hn ho hq => by
        simp only [Nat.sub_zero] at hn ho
        have hj : j < 6 := (List.getElem?_eq_some_iff.1 hn).1
        have hnl := hcl n (List.mem_of_getElem? hn)
        have hok := hck o (List.mem_of_getElem? ho)
        unfold cache_Text_L2 gateref2_ControlText_L2 cache_Text_J3 gateref2_ControlText_J3
        rw [ho, hcn]
        simp only [Option.bind_some, hok, if_true, out_eq, in_eq, Bool.not_not, hn]
        cases ho2 : outP (gt_S_api_Control_int c o) (-1) 100000000
        · rw [outP_in] at ho2
          simp at ho2
          simp only [Bool.false_eq_true, if_false]
          by_cases hg : gt_S_api_Control_int c o = -1
          · rw [if_neg (show ¬ decide (gt_S_api_Control_int c o ≠ -1) = true by simpa using hg), if_neg (show ¬ decide (0 ≤ gt_S_api_Control_int c o) = true by simp; omega)]
            exact ⟨_, rfl, rfl, by show q.length ≤ _; have := hq.1; omega, hq.2⟩
          · have h0 : 0 ≤ gt_S_api_Control_int c o := by omega
            have hi := itoa_le h0 (by omega)
            rw [if_pos (show decide (gt_S_api_Control_int c o ≠ -1) = true by simpa using hg), if_pos (show decide (0 ≤ gt_S_api_Control_int c o) = true by simpa using h0), if_pos (by simp; omega)]
            unfold m_strconv_Itoa
            rw [if_pos (by omega)]
            simp only [Option.bind_some]
            rw [if_pos (by simp; omega), if_pos (by have := hq.1; omega)]
            refine ⟨_, rfl, rfl, by show (q ++ _).length ≤ _; have := hq.1; simp; omega, fun x hx => ?_⟩
            rcases List.mem_append.1 hx with hx | hx
            · exact hq.2 x hx
            · rw [List.mem_singleton.1 hx]; simp; omega
        · simp only [if_true]
          exact ⟨_, rfl, rfl, trivial⟩) (fun s hs => by
        obtain ⟨r, hr⟩ := hE s ⟨by have := hs.1; simp [cnN] at this; omega, hs.2⟩
        refine ⟨(r, 0), ?_, ?_, trivial⟩
        · unfold cache_Text_E2; rw [hr]; rfl
        · unfold gateref2_ControlText_E2; rw [hr]; rfl)
    exact ⟨r, r1, r2⟩
  unfold m_cache_Text m_gateref2_ControlText
  rw [hf, hfo]
  simp only [Option.bind_some]
  rw [if_pos (by decide), if_pos (by decide)]
  obtain ⟨r, r1, r2, _⟩ := forL_two (R := fun _ => True) (body := fun (k : Nat) (x : Bs) (s : (List Bs)) => cache_Text_L1 c (flN, [0, 1, 2, 3, 4, 5]) k x s) (body' := fun (k : Nat) (x : Int) (s : (List Bs)) => gateref2_ControlText_L1 c k x s) (fin := fun (s : (List Bs)) => cache_Text_E1 c s) (fin' := fun (s : (List Bs)) => gateref2_ControlText_E1 c s)
    (fun j (l : List Bs) => l.length ≤ j ∧ ∀ x, x ∈ l → x.length ≤ 100) flN [0, 1, 2, 3, 4, 5] 0 [] rfl ⟨by simp, by simp⟩ (fun j n o q _ hn ho hq => by
      simp only [Nat.sub_zero] at hn ho
      have hj : j < 6 := (List.getElem?_eq_some_iff.1 hn).1
      have hnl := hfl n (List.mem_of_getElem? hn)
      have hok := hfk o (List.mem_of_getElem? ho)
      unfold cache_Text_L1 gateref2_ControlText_L1 cache_Text_J4 gateref2_ControlText_J4
      rw [ho, hfn]
      simp only [Option.bind_some, hok, if_true, hn]
      cases gt_S_api_Control_bool c o
      · exact ⟨_, rfl, rfl, by show q.length ≤ _; have := hq.1; omega, hq.2⟩
      · simp only [if_true]
        rw [if_pos (by have := hq.1; omega)]
        refine ⟨_, rfl, rfl, by show (q ++ _).length ≤ _; have := hq.1; simp; omega, fun x hx => ?_⟩
        rcases List.mem_append.1 hx with hx | hx
        · exact hq.2 x hx
        · rw [List.mem_singleton.1 hx]; omega) (fun s hs => by
      obtain ⟨r, a, b⟩ := h2 s ⟨by have := hs.1; simp [flN] at this; omega, hs.2⟩
      exact ⟨r, a, b, trivial⟩)
  exact ⟨r, r1, r2⟩
/-- the law's last word -/
theorem kept_eq : m_gatelaw2_kept = some true := by
  have hcr : m_message_CheckResponse (S_api_Response.mk 200 [S_api_Header.mk ccL [109, 97, 120, 45, 97, 103, 101, 61, 50]] []) = some 0 := by
    have h1 := (headers_eq [S_api_Header.mk ccL [109, 97, 120, 45, 97, 103, 101, 61, 50]] ⟨by simp, fun h hh => by rw [List.mem_singleton.1 hh]; exact ⟨by decide, by decide⟩⟩).1
    have h2 : hdsE [S_api_Header.mk ccL [109, 97, 120, 45, 97, 103, 101, 61, 50]] = 0 := by decide +kernel
    rw [h2] at h1
    unfold m_message_CheckResponse
    rw [out_eq]
    simp only [Option.bind_some]
    rw [h1]
    rfl
  have hnm : ∀ x, x ∈ [S_api_Header.mk ccL [109, 97, 120, 45, 97, 103, 101, 61, 50]] → nmOK x := fun x hx => by rw [List.mem_singleton.1 hx]; exact ⟨by decide +kernel, by decide⟩
  have hv := (values_eq [S_api_Header.mk ccL [109, 97, 120, 45, 97, 103, 101, 61, 50]] ccL (by simp) hnm ⟨rfl, by decide⟩).1
  have hv2 := (values_eq [S_api_Header.mk ccL [109, 97, 120, 45, 97, 103, 101, 61, 50]] [118, 97, 114, 121] (by simp) hnm ⟨rfl, by decide⟩).1
  have e1 : valsB ccL [S_api_Header.mk ccL [109, 97, 120, 45, 97, 103, 101, 61, 50]] = [[109, 97, 120, 45, 97, 103, 101, 61, 50]] := by decide +kernel
  have e2 : valsB [118, 97, 114, 121] [S_api_Header.mk ccL [109, 97, 120, 45, 97, 103, 101, 61, 50]] = [] := by decide +kernel
  rw [e1] at hv
  rw [e2] at hv2
  have p1 := (parts_eq [[109, 97, 120, 45, 97, 103, 101, 61, 50]] ⟨by simp, by simp⟩).1
  have p2 := (parts_eq [] ⟨by simp, by simp⟩).1
  have e3 : ptsB [[109, 97, 120, 45, 97, 103, 101, 61, 50]] = [[109, 97, 120, 45, 97, 103, 101, 61, 50]] := by decide +kernel
  rw [e3] at p1
  have hpar : m_cache_parse [S_api_Header.mk ccL [109, 97, 120, 45, 97, 103, 101, 61, 50]] = some ((toldB (tc c0) [109, 97, 120, 45, 97, 103, 101, 61, 50]).2, 0) := by
    rw [parse_start]
    unfold cache_parse_E1
    show (m_message_Values _ ccL).bind _ = _
    rw [hv]
    simp only [Option.bind_some]
    rw [p1]
    simp only [Option.bind_some]
    rw [if_pos (by simp)]
    have a := parseL2_eq 0 [109, 97, 120, 45, 97, 103, 101, 61, 50] (tc c0) (by simp)
    show (cache_parse_L2 0 [109, 97, 120, 45, 97, 103, 101, 61, 50] false false (-1) (-1) false false false false (-1) (-1) (-1) (-1)).bind _ = _
    have a' : cache_parse_L2 0 [109, 97, 120, 45, 97, 103, 101, 61, 50] false false (-1) (-1) false false false false (-1) (-1) (-1) (-1) = some (stT (tc c0) [109, 97, 120, 45, 97, 103, 101, 61, 50]) := a
    rw [a']
    have e4 : (toldB (tc c0) [109, 97, 120, 45, 97, 103, 101, 61, 50]).1 = true := by decide +kernel
    unfold stT
    rw [e4]
    rfl
  have hvy : m_cache_vary (S_api_Response.mk 200 [S_api_Header.mk ccL [109, 97, 120, 45, 97, 103, 101, 61, 50]] []) = some ([], false, 0) := by
    unfold m_cache_vary
    show (m_message_Values [S_api_Header.mk ccL [109, 97, 120, 45, 97, 103, 101, 61, 50]] [118, 97, 114, 121]).bind _ = _
    rw [hv2]
    simp only [Option.bind_some]
    rw [p2]
    have e0 : ptsB [] = [] := rfl
    rw [e0]
    simp only [Option.bind_some]
    rw [if_pos (by simp)]
    show cache_vary_E1 [] = _
    have hi : m_slices_Index_L_string_string_ [] [42] = some (-1) := rfl
    have hs : m_slices_Sort_string [] = some [] := by
      unfold m_slices_Sort_string
      rw [if_pos (by simp)]
      simp
    unfold cache_vary_E1 m_slices_Contains_L_string_string_ m_kit_Rising m_slices_Clone
    rw [hi]
    simp only [Option.bind_some]
    rw [if_neg (by simp), if_pos (by simp)]
    simp only [Option.bind_some]
    rw [hs]
    rfl
  have f1 : (toldB (tc c0) [109, 97, 120, 45, 97, 103, 101, 61, 50]).2.NoCache = false := by decide +kernel
  have f2 : (toldB (tc c0) [109, 97, 120, 45, 97, 103, 101, 61, 50]).2.Shared = -1 := by decide +kernel
  have f3 : (toldB (tc c0) [109, 97, 120, 45, 97, 103, 101, 61, 50]).2.MaxAge = 2 := by decide +kernel
  have hlt : m_cache_lifetime (toldB (tc c0) [109, 97, 120, 45, 97, 103, 101, 61, 50]).2 = some 2000 := by
    unfold m_cache_lifetime
    rw [f1, f2, f3]
    rfl
  unfold m_gatelaw2_kept m_cache_Lifetime
  rw [hcr]
  simp only [Option.bind_some]
  rw [if_neg (by simp)]
  show ((m_cache_parse [S_api_Header.mk ccL [109, 97, 120, 45, 97, 103, 101, 61, 50]]).bind _).bind _ = _
  rw [hpar]
  simp only [Option.bind_some]
  rw [if_neg (by simp)]
  rw [hvy]
  simp only [Option.bind_some]
  rw [if_neg (by simp), hlt]
  rfl
/-- words of up to a hundred signs -/
theorem words_ok2 {k : Int} {s : S_gatemake_Stream} (h : SB k s) (hk : k ≤ 1000000) (m : Nat) (hm : m ≤ 100) (sep : Bs) (hsep : sep.length ≤ 10) (l : List Bs) (hl : l ≠ [] ∧ l.length ≤ 1000) (hB : ∀ x, x ∈ l → x.length ≤ 100) :
    Ok (m_gatemake_Stream_Words s (m : Int) sep l) fun r => r.1.length ≤ 30000 ∧ SB (k + m) r.2 := by
  unfold m_gatemake_Stream_Words
  refine ok_g (by omega) ?_
  rw [Int.toNat_natCast]
  refine ok_rng (fun j (q : List Int × Int × List Bs) => j ≤ m ∧ SB (k + (j : Int)) (S_gatemake_Stream.mk q.1 q.2.1) ∧ q.2.2.length ≤ j ∧ ∀ x, x ∈ q.2.2 → x.length ≤ 100) m 0 _ ⟨by omega, h.mono (by omega), by simp, by simp⟩ ?_ ?_
  · rintro j ⟨c5, c6, l7⟩ _ hj ⟨h0, h1, h2, h3⟩
    simp only at h1 h2 h3 ⊢
    unfold gatemake_Stream_Words_L1
    refine ok_bind (some_ok h1 (by omega) l hl) fun r hr => ok_g (by omega) (ok_some ?_)
    refine ⟨by omega, hr.2.mono (by omega), by simp; omega, fun x hx => ?_⟩
    rcases List.mem_append.1 hx with h | h
    · exact h3 x h
    · have : x = r.1 := by simpa using h
      rw [this]; exact hB _ hr.1
  · rintro ⟨c5, c6, l7⟩ ⟨h0, h1, h2, h3⟩
    simp only at h1 h2 h3 ⊢
    have hj := join_le 100 sep l7 h3
    have hmm : l7.length * (100 + sep.length) ≤ 100 * 110 := Nat.mul_le_mul (by omega) (by omega)
    unfold gatemake_Stream_Words_E1
    have hJ : m_strings_Join l7 sep = some (Lib.join l7 sep) := by
      unfold m_strings_Join
      rw [if_pos ⟨by omega, by omega⟩]
    rw [hJ]
    exact ok_some ⟨by simp only; omega, h1.mono (by omega)⟩
/-- streams -/
theorem controlValue_ok {k : Int} {s : S_gatemake_Stream} (h : SB k s) (hk : k ≤ 100000) : Ok (m_gatemake_Stream_ControlValue s) fun r => r.1.length ≤ 30000 ∧ SB (k + 20) r.2 := by
  have hJ : ∀ (t : Bs) (c : List Int) (a : Int), t.length ≤ 30000 → SB (k + 15) (S_gatemake_Stream.mk c a) → Ok (gatemake_Stream_ControlValue_J1 t c a) fun r => r.1.length ≤ 30000 ∧ SB (k + 20) r.2 := by
    intro t c a ht hs
    unfold gatemake_Stream_ControlValue_J1 gatemake_Stream_ControlValue_J2
    refine ok_bind (flip_ok hs (by omega) 20 (by omega)) fun r hr => ok_if (fun _ => ?_) (fun _ => ok_some ⟨ht, hr.mono (by omega)⟩)
    exact ok_bind (someB_ok hr (by omega) 100 _ ⟨by simp, by simp⟩ (by decide)) fun r2 h2 => ok_some ⟨by have := h2.1; simp only; omega, h2.2.mono (by omega)⟩
  unfold m_gatemake_Stream_ControlValue
  refine ok_bind (range_ok h (by omega) 0 3 (by omega)) fun r hr => ?_
  obtain ⟨m, hm⟩ : ∃ m : Nat, r.1 = (m : Int) := ⟨r.1.toNat, by omega⟩
  rw [hm]
  refine ok_bind (words_ok2 hr.2 (by omega) m (by omega) [44, 32] (by simp) _ ⟨by simp, by simp⟩ (by decide)) fun r2 h2 => ok_bind (flip_ok h2.2 (by omega) 10 (by omega)) fun r3 h3 => ok_if (fun _ => ?_) (fun _ => hJ _ _ _ h2.1 (h3.mono (by omega)))
  exact ok_bind (words_ok2 h3 (by omega) 2 (by omega) [44] (by simp) _ ⟨by simp, by simp⟩ (by decide)) fun r4 h4 => hJ _ _ _ h4.1 (h4.2.mono (by omega))
theorem askValue_ok {k : Int} {s : S_gatemake_Stream} (h : SB k s) (hk : k ≤ 100000) : Ok (m_gatemake_Stream_AskValue s) fun r => r.1.length ≤ 30000 ∧ SB (k + 20) r.2 := by
  unfold m_gatemake_Stream_AskValue gatemake_Stream_AskValue_J1
  refine ok_bind (range_ok h (by omega) 1 2 (by omega)) fun r hr => ?_
  obtain ⟨m, hm⟩ : ∃ m : Nat, r.1 = (m : Int) := ⟨r.1.toNat, by omega⟩
  rw [hm]
  refine ok_bind (words_ok2 hr.2 (by omega) m (by omega) [44, 32] (by simp) _ ⟨by simp, by simp⟩ (by decide)) fun r2 h2 => ok_bind (flip_ok h2.2 (by omega) 20 (by omega)) fun r3 h3 => ok_if (fun _ => ?_) (fun _ => ok_some ⟨h2.1, h3.mono (by omega)⟩)
  exact ok_bind (someB_ok h3 (by omega) 100 _ ⟨by simp, by simp⟩ (by decide)) fun r4 h4 => ok_some ⟨by have := h4.1; simp only; omega, h4.2.mono (by omega)⟩
theorem controlsRead_plain (L : List Int) : m_gatelaw2_ControlsRead L = some true := by
  refine ok_eq ?_
  have hJ4 : ∀ c : S_api_Control, Ok (gatelaw2_ControlsRead_J4 c.NoStore c.NoCache c.Private c.Public c.Must c.Only c.MaxAge c.Shared c.Stale c.OnError c.MaxStale c.MinFresh) (· = true) := by
    intro c
    obtain ⟨r, r1, r2⟩ := text_both c
    unfold gatelaw2_ControlsRead_J4 gatelaw2_ControlsRead_J5
    show Ok ((m_cache_Text c).bind _) _
    rw [r1]
    simp only [Option.bind_some]
    show Ok ((m_gateref2_ControlText c).bind _) _
    rw [r2]
    simp only [Option.bind_some, decide_true, if_true, kept_eq]
    exact ⟨true, rfl, rfl⟩
  have hJ3 : ∀ (c6 : List Int) (c7 : Int) (r12 : S_api_Control × Int), SB 1000 (S_gatemake_Stream.mk c6 c7) → Ok (gatelaw2_ControlsRead_J3 c6 c7 r12 false) (· = true) := by
    intro c6 c7 r12 hs
    unfold gatelaw2_ControlsRead_J3
    rw [if_neg (by simp)]
    refine ok_bind (flip_ok hs (by omega) 3 (by omega)) fun r37 h37 => ok_if (fun _ => ?_) (fun _ => hJ4 r12.1)
    exact ok_bind (flip_ok h37 (by omega) 2 (by omega)) fun r40 h40 => ok_bind (flip_ok h40 (by omega) 2 (by omega)) fun r42 h42 => ok_bind (flip_ok h42 (by omega) 2 (by omega)) fun r44 h44 => ok_bind (odd_ok h44 (by omega) (-1) 100 (by omega)) fun r46 h46 => ok_bind (odd_ok h46.2 (by omega) (-1) 100 (by omega)) fun r48 h48 => ok_bind (pick_ok h48.2 (by omega) _ ⟨by simp, by simp⟩) fun r50 h50 => ok_bind (pick_ok h50.2 (by omega) _ ⟨by simp, by simp⟩) fun r52 h52 => hJ4 (S_api_Control.mk r40.1 false false r42.1 false r44.1 r46.1 r48.1 (-1) r50.1 (-1) r52.1)
  have hJ2 : ∀ (c6 : List Int) (c7 : Int) (r12 : S_api_Control × Int), SB 1000 (S_gatemake_Stream.mk c6 c7) → Ok (gatelaw2_ControlsRead_J2 c6 c7 r12 r12.2 r12.1.NoStore r12.1.NoCache r12.1.Private r12.1.Public r12.1.Must r12.1.Only r12.1.MaxAge r12.1.Shared r12.1.Stale r12.1.OnError r12.1.MaxStale r12.1.MinFresh) (· = true) := by
    intro c6 c7 r12 hs
    unfold gatelaw2_ControlsRead_J2
    rw [if_neg (by simp)]
    simp only [beq_self_eq_true, Bool.and_self, Bool.not_true]
    exact hJ3 c6 c7 r12 hs
  unfold m_gatelaw2_ControlsRead
  refine ok_bind (headersA_ok (k := 0) ⟨by simp, by simp⟩ (by omega) 2 (by omega)) fun r2 h2 => ok_bind (range_ok h2.2 (by omega) 0 2 (by omega)) fun r4 h4 => ?_
  obtain ⟨m, hm⟩ : ∃ m : Nat, r4.1 = (m : Int) := ⟨r4.1.toNat, by omega⟩
  rw [hm, Int.toNat_natCast]
  refine ok_g (by omega) ?_
  refine ok_rng (fun j (q : List Int × Int × List S_api_Header) => j ≤ m ∧ SB (41 + 60 * (j : Int)) (S_gatemake_Stream.mk q.1 q.2.1) ∧ q.2.2.length ≤ 100 + j ∧ ∀ y, y ∈ q.2.2 → hdA y) m 0 _ ⟨by omega, h4.2.mono (by omega), by simpa using h2.1.1, h2.1.2⟩ ?_ ?_
  · rintro j ⟨c6, c7, l8⟩ _ hj ⟨h0, h1, h3, h5⟩
    simp only at h1 h3 h5 ⊢
    unfold gatelaw2_ControlsRead_L1
    refine ok_bind (someA_ok h1 (by omega) 3000 _ ⟨by simp, by simp⟩ (by decide +kernel)) fun r80 h80 => ok_bind (controlValue_ok h80.2 (by omega)) fun r82 h82 => ok_bind (askValue_ok h82.2 (by omega)) fun r84 h84 => ok_bind (someB_ok h84.2 (by omega) 30000 _ ⟨by simp, by simp⟩ (by simp [h82.1, h84.1])) fun r86 h86 => ok_g (by omega) (ok_some ?_)
    exact ⟨by omega, h86.2.mono (by omega), by simp; omega, hdA_snoc h5 (hdA_mk h80.1 h86.1)⟩
  · rintro ⟨c6, c7, l8⟩ ⟨h0, h1, h3, h5⟩
    simp only at h1 h3 h5 ⊢
    have he := headers_eq l8 ⟨by omega, fun y hy => (h5 y hy).1⟩
    unfold gatelaw2_ControlsRead_E1 m_cache_Parse
    rw [he.1, he.2]
    simp only [Option.bind_some]
    by_cases hz : hdsE l8 = 0
    · rw [if_neg (show ¬ decide (hdsE l8 ≠ 0) = true by simpa using hz)]
      obtain ⟨r, r1, r2⟩ := parse_same l8 hz (by omega) fun y hy => (h5 y hy).2
      rw [r1]
      simp only [Option.bind_some]
      rw [if_pos (show decide (hdsE l8 = 0) = true by simpa using hz), r2]
      simp only [Option.bind_some]
      exact hJ2 c6 c7 r (h1.mono (by omega))
    · rw [if_pos (show decide (hdsE l8 ≠ 0) = true by simpa using hz)]
      simp only [Option.bind_some]
      rw [if_neg (show ¬ decide (hdsE l8 = 0) = true by simpa using hz)]
      exact hJ2 c6 c7 (S_api_Control.mk false false false false false false 0 0 0 0 0 0, hdsE l8) (h1.mono (by omega))
end Go.Proofs.YthgeeoecgneclaaGreatDoor
