/- Plain: controls of caches: parts, what is told, texts; the law's last word. -/
import Derived.Test.YtbicifgfibafmaaGreatDoorPtYp
import Derived.Test.YtbicifgfibafmaaGreatDoorHaYp
namespace Go.Proofs.YtbicifgfibafmaaGreatDoor
set_option linter.unusedVariables false
set_option maxRecDepth 20000
/-- parts of values, the program's and the reference's -/
def vlP (V : List Bs) : Prop := V.length ≤ 1000 ∧ ∀ v, v ∈ V → v.length ≤ 2000
theorem partsL2 : ∀ (l : List Bs) (k : Nat) (q : List Bs), (∀ x, x ∈ l → x.length ≤ 2000) → q.length + l.length ≤ 100000000 →
    forL (fun (k : Nat) (x : Bs) (s : (List Bs)) => message_Parts_L2 k x s) (fun (s : (List Bs)) => message_Parts_E2 s) k l q = some (.inl (q ++ tfB l))
  | [], k, q, _, _ => by show some (Sum.inl q) = _; simp [tfB]
  | x :: l, k, q, h, hl => by
    simp only [List.length_cons] at hl
    have hx := h x (by simp)
    have hst : message_Parts_L2 k x q = some (.inl (q ++ tfB [x])) := by
      unfold message_Parts_L2 message_Parts_J3
      rw [trim_eq 32 (by decide) x (by omega)]
      simp only [Option.bind_some]
      by_cases h0 : trL 32 (trR 32 x) = []
      · rw [if_neg (by simpa using h0)]
        simp [tfB, h0]
      · rw [if_pos (by simpa using h0), if_pos (by omega)]
        simp [tfB, h0]
    show (message_Parts_L2 k x q).bind _ = _
    rw [hst]
    have h1 := tfB_len [x]
    refine Eq.trans (partsL2 l (k + 1) (q ++ tfB [x]) (fun y hy => h y (List.mem_cons_of_mem _ hy)) (by simp only [List.length_append, List.length_cons, List.length_nil] at h1 ⊢; omega)) ?_
    rw [List.append_assoc, ← tfB_app]; rfl
theorem pieces_len (V : List Bs) (h : ∀ v, v ∈ V → v.length ≤ 2000) : (V.map (spl 44)).flatten.length ≤ V.length * 2001 ∧ ∀ x, x ∈ (V.map (spl 44)).flatten → x.length ≤ 2000 := by
  induction V with
  | nil => simp
  | cons v V ih =>
    obtain ⟨h1, h2⟩ := ih fun x hx => h x (List.mem_cons_of_mem _ hx)
    have h3 := spl_len 44 v
    have h4 := h v (by simp)
    simp only [List.map_cons, List.flatten_cons, List.length_append, List.length_cons, Nat.succ_mul]
    refine ⟨by omega, fun x hx => ?_⟩
    rcases List.mem_append.1 hx with hx | hx
    · have := spl_piece 44 v x hx; omega
    · exact h2 x hx
theorem partsL1 : ∀ (V : List Bs) (k : Nat) (q : List Bs), (∀ v, v ∈ V → v.length ≤ 2000) → q.length + V.length * 2001 ≤ 90000000 →
    forL (fun (k : Nat) (x : Bs) (s : (List Bs)) => message_Parts_L1 k x s) (fun (s : (List Bs)) => message_Parts_E1 s) k V q = some (q ++ ptsB V)
  | [], k, q, _, _ => by show some q = _; simp [ptsB, tfB]
  | v :: V, k, q, h, hl => by
    simp only [List.length_cons, Nat.succ_mul] at hl
    have hv := h v (by simp)
    have h3 := spl_len 44 v
    have hst : message_Parts_L1 k v q = some (.inl (q ++ tfB (spl 44 v))) := by
      unfold message_Parts_L1 m_strings_Split
      rw [if_pos ⟨by omega, by simp⟩, splitL_one]
      simp only [Option.bind_some]
      rw [if_pos (by omega)]
      exact partsL2 (spl 44 v) 0 q (fun x hx => by have := spl_piece 44 v x hx; omega) (by omega)
    show (message_Parts_L1 k v q).bind _ = _
    rw [hst]
    have h1 := tfB_len (spl 44 v)
    refine Eq.trans (partsL1 V (k + 1) (q ++ tfB (spl 44 v)) (fun y hy => h y (List.mem_cons_of_mem _ hy)) (by simp only [List.length_append]; omega)) ?_
    unfold ptsB
    rw [List.map_cons, List.flatten_cons, tfB_app, List.append_assoc]
theorem parts_msg (V : List Bs) (h : vlP V) : m_message_Parts V = some (ptsB V) := by
  obtain ⟨h1, h2⟩ := h
  unfold m_message_Parts
  rw [if_pos (by omega), partsL1 V 0 [] h2 (by simp; omega)]; rfl
/-- one part of a control -/
def flN : List Bs := [[110, 111, 45, 115, 116, 111, 114, 101], [110, 111, 45, 99, 97, 99, 104, 101], [112, 114, 105, 118, 97, 116, 101], [112, 117, 98, 108, 105, 99], [109, 117, 115, 116, 45, 114, 101, 118, 97, 108, 105, 100, 97, 116, 101], [111, 110, 108, 121, 45, 105, 102, 45, 99, 97, 99, 104, 101, 100]]
def cnN : List Bs := [[109, 97, 120, 45, 97, 103, 101], [115, 45, 109, 97, 120, 97, 103, 101], [115, 116, 97, 108, 101, 45, 119, 104, 105, 108, 101, 45, 114, 101, 118, 97, 108, 105, 100, 97, 116, 101], [115, 116, 97, 108, 101, 45, 105, 102, 45, 101, 114, 114, 111, 114], [109, 97, 120, 45, 115, 116, 97, 108, 101], [109, 105, 110, 45, 102, 114, 101, 115, 104]]
def idxB (ns : List Bs) (nm : Bs) : Int := fdx (fun x => decide (nm = x)) 0 ns
theorem index_eq (ns : List Bs) (nm : Bs) (h : ns.length ≤ 1000000000) : m_slices_Index_L_string_string_ ns nm = some (idxB ns nm) :=
  gIdx_eq ns (p := fun x => some (decide (nm = x))) (fun x => decide (nm = x)) h fun _ _ => rfl
theorem idx_range {ns : List Bs} {nm : Bs} (h : 0 ≤ idxB ns nm) : ∃ j : Nat, idxB ns nm = (j : Int) ∧ j < ns.length ∧ nm ∈ ns := by
  obtain ⟨_, x, h2, h3⟩ := (fdx_lo (fun x => decide (nm = x)) ns 0).2 h
  refine ⟨(idxB ns nm).toNat, by omega, ?_, ?_⟩
  · have := (List.getElem?_eq_some_iff.1 h2).1
    exact this
  · have e : nm = x := by simpa using h3
    rw [e]; exact List.mem_of_getElem? h2
theorem fl_cn : ∀ x, x ∈ flN → idxB cnN x < 0 := by decide +kernel
theorem fl_at : ∀ j : Nat, j < 6 → at? ([0, 1, 2, 3, 4, 5] : List Int) (j : Int) = some (j : Int) ∧ ck_S_api_Control_bool (j : Int) = true := by decide +kernel
theorem cn_at : ∀ j : Nat, j < 6 → at? ([6, 7, 8, 9, 10, 11] : List Int) (j : Int) = some (6 + (j : Int)) ∧ ck_S_api_Control_int (6 + (j : Int)) = true := by decide +kernel
def nOf (v : Bs) : Int := if okN 9 v then valB v else 0
def sOK (v : Bs) : Bool := okN 9 v && !outP (valB v) 0 100000000
theorem seconds_eq (v : Bs) (h : v.length ≤ 1000000) : m_cache_seconds v = some (nOf v, sOK v) := by
  have hk : m_kit_Number v 9 = some (if okN 9 v then valB v else 0, okN 9 v) := kit_number v 9 (by omega) h
  unfold m_cache_seconds m_kit_Small cache_seconds_J1 nOf sOK
  rw [hk]
  simp only [Option.bind_some]
  cases okN 9 v
  · rfl
  · simp only [if_true, out_eq, Option.bind_some, Bool.true_and]
def numC (c : S_api_Control) (i n : Int) : S_api_Control := if gt_S_api_Control_int c (6 + i) = -1 ∨ n < gt_S_api_Control_int c (6 + i) then st_S_api_Control_int c (6 + i) n else c
def toldB (c : S_api_Control) (x : Bs) : Bool × S_api_Control :=
  let r := Lib.cut x [61]
  if !tokB r.1 || (r.2.2 && !sOK r.2.1) then (false, c)
  else if 0 ≤ idxB flN (lo r.1) then (!r.2.2, st_S_api_Control_bool c (idxB flN (lo r.1)) true)
  else if idxB cnN (lo r.1) < 0 then (true, c)
  else (r.2.2, numC c (idxB cnN (lo r.1)) (nOf r.2.1))
theorem told_eq (c : S_api_Control) (x : Bs) (h : x.length ≤ 1000000) : m_cache_told c x = some (toldB c x) := by
  obtain ⟨c1, c2, c3, c4⟩ := cut1_len x 61
  unfold m_cache_told toldB m_strings_Cut
  rw [if_pos (by omega)]
  simp only [Option.bind_some]
  generalize Lib.cut x [61] = r at *
  rw [seconds_eq _ (by omega), isToken_eq _ (by omega)]
  simp only [Option.bind_some]
  cases ht : tokB r.1
  · rfl
  simp only [Bool.not_true, Bool.false_or]
  cases hs : (r.2.2 && !sOK r.2.1)
  · simp only [Bool.false_eq_true, if_false]
    have hlow : m_strings_ToLower r.1 = some (lo r.1) := by
      unfold m_strings_ToLower
      rw [if_pos ⟨by omega, tok_asc ht⟩]
    have hf : m_cache_flags = some (flN, [0, 1, 2, 3, 4, 5]) := rfl
    have hc : m_cache_numbers = some (cnN, [6, 7, 8, 9, 10, 11]) := rfl
    rw [hlow, hf, hc]
    simp only [Option.bind_some]
    rw [index_eq flN (lo r.1) (by decide), index_eq cnN (lo r.1) (by decide)]
    simp only [Option.bind_some]
    by_cases h0 : 0 ≤ idxB flN (lo r.1)
    · obtain ⟨j, j1, j2, _⟩ := idx_range h0
      obtain ⟨a1, a2⟩ := fl_at j j2
      rw [if_pos (by simpa using h0), if_pos h0, j1, a1]
      simp only [Option.bind_some]
      rw [if_pos a2]
    · rw [if_neg (by simpa using h0), if_neg h0]
      by_cases h1 : idxB cnN (lo r.1) < 0
      · rw [if_pos (by simpa using h1), if_pos h1]
      · rw [if_neg (by simpa using h1), if_neg h1]
        obtain ⟨j, j1, j2, _⟩ := idx_range (show 0 ≤ idxB cnN (lo r.1) by omega)
        obtain ⟨a1, a2⟩ := cn_at j j2
        unfold cache_told_J2 cache_told_J1 numC
        rw [j1, a1]
        simp only [Option.bind_some, a2, if_true]
        by_cases hg : gt_S_api_Control_int c (6 + (j : Int)) = -1
        · rw [if_pos (by simpa using hg), if_pos (Or.inl hg)]
        · rw [if_neg (by simpa using hg)]
          by_cases hn : nOf r.2.1 < gt_S_api_Control_int c (6 + (j : Int))
          · rw [if_pos (by simpa using hn), if_pos (Or.inr hn)]
          · rw [if_neg (by simpa using hn), if_neg (by simp [hg, hn])]
  · simp
/-- states of the loops -/
abbrev Tst := Bool × Bool × Int × Int × Bool × Bool × Bool × Bool × Int × Int × Int × Int
def tc (s : Tst) : S_api_Control := S_api_Control.mk s.1 s.2.1 s.2.2.2.2.1 s.2.2.2.2.2.1 s.2.2.2.2.2.2.1 s.2.2.2.2.2.2.2.1 s.2.2.2.2.2.2.2.2.1 s.2.2.2.2.2.2.2.2.2.1 s.2.2.2.2.2.2.2.2.2.2.1 s.2.2.2.2.2.2.2.2.2.2.2 s.2.2.1 s.2.2.2.1
def ct (c : S_api_Control) : Tst := (c.NoStore, c.NoCache, c.MaxStale, c.MinFresh, c.Private, c.Public, c.Must, c.Only, c.MaxAge, c.Shared, c.Stale, c.OnError)
def cOK (c : S_api_Control) : Prop := ∀ x, ck_S_api_Control_int x = true → -1 ≤ gt_S_api_Control_int c x
theorem gt_stb (c : S_api_Control) (x y : Int) (b : Bool) : gt_S_api_Control_int (st_S_api_Control_bool c y b) x = gt_S_api_Control_int c x := by
  unfold st_S_api_Control_bool
  (repeat' split) <;> rfl
theorem gt_sti (c : S_api_Control) (x y n : Int) : gt_S_api_Control_int (st_S_api_Control_int c y n) x = n ∨ gt_S_api_Control_int (st_S_api_Control_int c y n) x = gt_S_api_Control_int c x := by
  unfold st_S_api_Control_int
  (repeat' split) <;> unfold gt_S_api_Control_int <;> (repeat' split) <;> simp
theorem cOK_stb {c : S_api_Control} (h : cOK c) (y : Int) (b : Bool) : cOK (st_S_api_Control_bool c y b) := fun x hx => by rw [gt_stb]; exact h x hx
theorem cOK_sti {c : S_api_Control} (h : cOK c) (y n : Int) (hn : -1 ≤ n) : cOK (st_S_api_Control_int c y n) := fun x hx => by
  rcases gt_sti c x y n with e | e
  · rw [e]; exact hn
  · rw [e]; exact h x hx
abbrev zzT : S_api_Control × Int := (S_api_Control.mk false false false false false false 0 0 0 0 0 0, 9)
def stT (c : S_api_Control) (x : Bs) : Tst ⊕ (S_api_Control × Int) := if (toldB c x).1 then .inl (ct (toldB c x).2) else .inr zzT
theorem parseL2_eq (k : Nat) (x : Bs) (c : S_api_Control) (h : x.length ≤ 1000000) : cache_parse_L2 k x c.NoStore c.NoCache c.MaxStale c.MinFresh c.Private c.Public c.Must c.Only c.MaxAge c.Shared c.Stale c.OnError = some (stT c x) := by
  unfold cache_parse_L2 stT
  show (m_cache_told c x).bind _ = _
  rw [told_eq c x h]
  simp only [Option.bind_some]
  cases (toldB c x).1 <;> rfl
/-- what right headers say -/
abbrev ccL : Bs := [99, 97, 99, 104, 101, 45, 99, 111, 110, 116, 114, 111, 108]
abbrev c0 : Tst := (false, false, -1, -1, false, false, false, false, -1, -1, -1, -1)
theorem parse_start (l : List S_api_Header) : m_cache_parse l = cache_parse_E1 l false false (-1) (-1) false false false false (-1) (-1) (-1) (-1) := rfl
theorem c0_ok : cOK (tc c0) := fun x hx => by
  unfold ck_S_api_Control_int at hx
  simp only [Bool.or_eq_true, decide_eq_true_eq] at hx
  rcases hx with ((((rfl | rfl) | rfl) | rfl) | rfl) | rfl <;> decide
theorem valsB_ok {l : List S_api_Header} (h0 : hdsE l = 0) (n : Bs) : vlP (valsB n l) := by
  have hcnt := hds_cnt h0
  have hok := hds_ok h0
  refine ⟨?_, fun v hv => ?_⟩
  · unfold valsB
    rw [List.length_map]
    have := (List.filter_sublist (p := nmB n) (l := l)).length_le
    omega
  · unfold valsB at hv
    obtain ⟨x, hx, rfl⟩ := List.mem_map.1 hv
    exact fld_len (hok x (List.mem_filter.1 hx).1).2
theorem ptsB_len (V : List Bs) (h : vlP V) : (ptsB V).length ≤ 3000000 := by
  have h1 := pieces_len V h.2
  have h2 := tfB_len (V.map (spl 44)).flatten
  have h3 : V.length * 2001 ≤ 1000 * 2001 := Nat.mul_le_mul h.1 (by omega)
  unfold ptsB
  omega
/-- the law's last word -/
theorem kept_eq : m_gatelaw2_kept = some true := by
  have hcr : m_message_CheckResponse (S_api_Response.mk 200 [S_api_Header.mk ccL [109, 97, 120, 45, 97, 103, 101, 61, 50]] []) = some 0 := by
    have h1 := (headers_eq [S_api_Header.mk ccL [109, 97, 120, 45, 97, 103, 101, 61, 50]] ⟨by simp, fun h hh => by rw [List.mem_singleton.1 hh]; exact ⟨by decide, by decide⟩⟩).1
    have h2 : hdsE [S_api_Header.mk ccL [109, 97, 120, 45, 97, 103, 101, 61, 50]] = 0 := by decide +kernel
    rw [h2] at h1
    unfold m_message_CheckResponse
    rw [out_eq]
    simp only [Option.bind_some]
    rw [h1]
    rfl
  have hnm : ∀ x, x ∈ [S_api_Header.mk ccL [109, 97, 120, 45, 97, 103, 101, 61, 50]] → nmOK x := fun x hx => by rw [List.mem_singleton.1 hx]; exact ⟨by decide +kernel, by decide⟩
  have hv := (values_eq [S_api_Header.mk ccL [109, 97, 120, 45, 97, 103, 101, 61, 50]] ccL (by simp) hnm ⟨rfl, by decide⟩).1
  have hv2 := (values_eq [S_api_Header.mk ccL [109, 97, 120, 45, 97, 103, 101, 61, 50]] [118, 97, 114, 121] (by simp) hnm ⟨rfl, by decide⟩).1
  have e1 : valsB ccL [S_api_Header.mk ccL [109, 97, 120, 45, 97, 103, 101, 61, 50]] = [[109, 97, 120, 45, 97, 103, 101, 61, 50]] := by decide +kernel
  have e2 : valsB [118, 97, 114, 121] [S_api_Header.mk ccL [109, 97, 120, 45, 97, 103, 101, 61, 50]] = [] := by decide +kernel
  rw [e1] at hv
  rw [e2] at hv2
  have p1 := parts_msg [[109, 97, 120, 45, 97, 103, 101, 61, 50]] ⟨by simp, by simp⟩
  have p2 := parts_msg [] ⟨by simp, by simp⟩
  have e3 : ptsB [[109, 97, 120, 45, 97, 103, 101, 61, 50]] = [[109, 97, 120, 45, 97, 103, 101, 61, 50]] := by decide +kernel
  rw [e3] at p1
  have hpar : m_cache_parse [S_api_Header.mk ccL [109, 97, 120, 45, 97, 103, 101, 61, 50]] = some ((toldB (tc c0) [109, 97, 120, 45, 97, 103, 101, 61, 50]).2, 0) := by
    rw [parse_start]
    unfold cache_parse_E1
    show (m_message_Values _ ccL).bind _ = _
    rw [hv]
    simp only [Option.bind_some]
    rw [p1]
    simp only [Option.bind_some]
    rw [if_pos (by simp)]
    have a := parseL2_eq 0 [109, 97, 120, 45, 97, 103, 101, 61, 50] (tc c0) (by simp)
    show (cache_parse_L2 0 [109, 97, 120, 45, 97, 103, 101, 61, 50] false false (-1) (-1) false false false false (-1) (-1) (-1) (-1)).bind _ = _
    have a' : cache_parse_L2 0 [109, 97, 120, 45, 97, 103, 101, 61, 50] false false (-1) (-1) false false false false (-1) (-1) (-1) (-1) = some (stT (tc c0) [109, 97, 120, 45, 97, 103, 101, 61, 50]) := a
    rw [a']
    have e4 : (toldB (tc c0) [109, 97, 120, 45, 97, 103, 101, 61, 50]).1 = true := by decide +kernel
    unfold stT
    rw [e4]
    rfl
  have hvy : m_cache_vary (S_api_Response.mk 200 [S_api_Header.mk ccL [109, 97, 120, 45, 97, 103, 101, 61, 50]] []) = some ([], false, 0) := by
    unfold m_cache_vary
    show (m_message_Values [S_api_Header.mk ccL [109, 97, 120, 45, 97, 103, 101, 61, 50]] [118, 97, 114, 121]).bind _ = _
    rw [hv2]
    simp only [Option.bind_some]
    rw [p2]
    have e0 : ptsB [] = [] := rfl
    rw [e0]
    simp only [Option.bind_some]
    rw [if_pos (by simp)]
    show cache_vary_E1 [] = _
    have hi : m_slices_Index_L_string_string_ [] [42] = some (-1) := rfl
    have hs : m_slices_Sort_string [] = some [] := by
      unfold m_slices_Sort_string
      rw [if_pos (by simp)]
      simp
    unfold cache_vary_E1 m_slices_Contains_L_string_string_ m_kit_Rising m_slices_Clone
    rw [hi]
    simp only [Option.bind_some]
    rw [if_neg (by simp), if_pos (by simp)]
    simp only [Option.bind_some]
    rw [hs]
    rfl
  have f1 : (toldB (tc c0) [109, 97, 120, 45, 97, 103, 101, 61, 50]).2.NoCache = false := by decide +kernel
  have f2 : (toldB (tc c0) [109, 97, 120, 45, 97, 103, 101, 61, 50]).2.Shared = -1 := by decide +kernel
  have f3 : (toldB (tc c0) [109, 97, 120, 45, 97, 103, 101, 61, 50]).2.MaxAge = 2 := by decide +kernel
  have hlt : m_cache_lifetime (toldB (tc c0) [109, 97, 120, 45, 97, 103, 101, 61, 50]).2 = some 2000 := by
    unfold m_cache_lifetime
    rw [f1, f2, f3]
    rfl
  unfold m_gatelaw2_kept m_cache_Lifetime
  rw [hcr]
  simp only [Option.bind_some]
  rw [if_neg (by simp)]
  show ((m_cache_parse [S_api_Header.mk ccL [109, 97, 120, 45, 97, 103, 101, 61, 50]]).bind _).bind _ = _
  rw [hpar]
  simp only [Option.bind_some]
  rw [if_neg (by simp)]
  rw [hvy]
  simp only [Option.bind_some]
  rw [if_neg (by simp), hlt]
  rfl
/-- words of up to a hundred signs -/
theorem words_ok2 {k : Int} {s : S_gatemake_Stream} (h : SB k s) (hk : k ≤ 1000000) (m : Nat) (hm : m ≤ 100) (sep : Bs) (hsep : sep.length ≤ 10) (l : List Bs) (hl : l ≠ [] ∧ l.length ≤ 1000) (hB : ∀ x, x ∈ l → x.length ≤ 100) :
    Ok (m_gatemake_Stream_Words s (m : Int) sep l) fun r => r.1.length ≤ 30000 ∧ SB (k + m) r.2 := by
  unfold m_gatemake_Stream_Words
  refine ok_g (by omega) ?_
  rw [Int.toNat_natCast]
  refine ok_rng (fun j (q : List Int × Int × List Bs) => j ≤ m ∧ SB (k + (j : Int)) (S_gatemake_Stream.mk q.1 q.2.1) ∧ q.2.2.length ≤ j ∧ ∀ x, x ∈ q.2.2 → x.length ≤ 100) m 0 _ ⟨by omega, h.mono (by omega), by simp, by simp⟩ ?_ ?_
  · rintro j ⟨c5, c6, l7⟩ _ hj ⟨h0, h1, h2, h3⟩
    simp only at h1 h2 h3 ⊢
    unfold gatemake_Stream_Words_L1
    refine ok_bind (some_ok h1 (by omega) l hl) fun r hr => ok_g (by omega) (ok_some ?_)
    refine ⟨by omega, hr.2.mono (by omega), by simp; omega, fun x hx => ?_⟩
    rcases List.mem_append.1 hx with h | h
    · exact h3 x h
    · have : x = r.1 := by simpa using h
      rw [this]; exact hB _ hr.1
  · rintro ⟨c5, c6, l7⟩ ⟨h0, h1, h2, h3⟩
    simp only at h1 h2 h3 ⊢
    have hj := join_le 100 sep l7 h3
    have hmm : l7.length * (100 + sep.length) ≤ 100 * 110 := Nat.mul_le_mul (by omega) (by omega)
    unfold gatemake_Stream_Words_E1
    have hJ : m_strings_Join l7 sep = some (Lib.join l7 sep) := by
      unfold m_strings_Join
      rw [if_pos ⟨by omega, by omega⟩]
    rw [hJ]
    exact ok_some ⟨by simp only; omega, h1.mono (by omega)⟩
/-- streams -/
theorem controlValue_ok {k : Int} {s : S_gatemake_Stream} (h : SB k s) (hk : k ≤ 100000) : Ok (m_gatemake_Stream_ControlValue s) fun r => r.1.length ≤ 30000 ∧ SB (k + 20) r.2 := by
  have hJ : ∀ (t : Bs) (c : List Int) (a : Int), t.length ≤ 30000 → SB (k + 15) (S_gatemake_Stream.mk c a) → Ok (gatemake_Stream_ControlValue_J1 t c a) fun r => r.1.length ≤ 30000 ∧ SB (k + 20) r.2 := by
    intro t c a ht hs
    unfold gatemake_Stream_ControlValue_J1 gatemake_Stream_ControlValue_J2
    refine ok_bind (flip_ok hs (by omega) 20 (by omega)) fun r hr => ok_if (fun _ => ?_) (fun _ => ok_some ⟨ht, hr.mono (by omega)⟩)
    exact ok_bind (someB_ok hr (by omega) 100 _ ⟨by simp, by simp⟩ (by decide)) fun r2 h2 => ok_some ⟨by have := h2.1; simp only; omega, h2.2.mono (by omega)⟩
  unfold m_gatemake_Stream_ControlValue
  refine ok_bind (range_ok h (by omega) 0 3 (by omega)) fun r hr => ?_
  obtain ⟨m, hm⟩ : ∃ m : Nat, r.1 = (m : Int) := ⟨r.1.toNat, by omega⟩
  rw [hm]
  refine ok_bind (words_ok2 hr.2 (by omega) m (by omega) [44, 32] (by simp) _ ⟨by simp, by simp⟩ (by decide)) fun r2 h2 => ok_bind (flip_ok h2.2 (by omega) 10 (by omega)) fun r3 h3 => ok_if (fun _ => ?_) (fun _ => hJ _ _ _ h2.1 (h3.mono (by omega)))
  exact ok_bind (words_ok2 h3 (by omega) 2 (by omega) [44] (by simp) _ ⟨by simp, by simp⟩ (by decide)) fun r4 h4 => hJ _ _ _ h4.1 (h4.2.mono (by omega))
theorem askValue_ok {k : Int} {s : S_gatemake_Stream} (h : SB k s) (hk : k ≤ 100000) : Ok (m_gatemake_Stream_AskValue s) fun r => r.1.length ≤ 30000 ∧ SB (k + 20) r.2 := by
  unfold m_gatemake_Stream_AskValue gatemake_Stream_AskValue_J1
  refine ok_bind (range_ok h (by omega) 1 2 (by omega)) fun r hr => ?_
  obtain ⟨m, hm⟩ : ∃ m : Nat, r.1 = (m : Int) := ⟨r.1.toNat, by omega⟩
  rw [hm]
  refine ok_bind (words_ok2 hr.2 (by omega) m (by omega) [44, 32] (by simp) _ ⟨by simp, by simp⟩ (by decide)) fun r2 h2 => ok_bind (flip_ok h2.2 (by omega) 20 (by omega)) fun r3 h3 => ok_if (fun _ => ?_) (fun _ => ok_some ⟨h2.1, h3.mono (by omega)⟩)
  exact ok_bind (someB_ok h3 (by omega) 100 _ ⟨by simp, by simp⟩ (by decide)) fun r4 h4 => ok_some ⟨by have := h4.1; simp only; omega, h4.2.mono (by omega)⟩
end Go.Proofs.YtbicifgfibafmaaGreatDoor
