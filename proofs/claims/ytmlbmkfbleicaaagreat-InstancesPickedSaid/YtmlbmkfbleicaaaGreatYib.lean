/- Plain: instances in order, loads; the law InstancesPicked is true for every list of numbers. -/
import Derived.Test.YtmlbmkfbleicaaaGreatIsYi
import Derived.Test.YtmlbmkfbleicaaaGreatSrYi
namespace Go.Proofs.YtmlbmkfbleicaaaGreat
set_option linter.unusedVariables false
set_option maxRecDepth 20000
/-- instances that are right -/
structure InsG (xs : List S_api_Instance) : Prop where
  srt : Srt xs
  len : xs.length ≤ 50
  key : ∀ x, x ∈ xs → keyP x.Key = true
  wgt : ∀ x, x ∈ xs → 1 ≤ x.Weight ∧ x.Weight ≤ 100
theorem key_len {s : Bs} (h : keyP s = true) : s.length ≤ 40 ∧ s ≠ [] := by
  unfold keyP at h
  simp only [Bool.and_eq_true, decide_eq_true_eq] at h
  exact ⟨by omega, h.2.1⟩
theorem ciR_good : ∀ (l : List S_api_Instance) (last : Bs), ciR l last = 0 → ∀ x, x ∈ l → keyP x.Key = true ∧ 1 ≤ x.Weight ∧ x.Weight ≤ 100
  | [], last, _ => fun x h => by cases h
  | x :: l, last, h => by
    simp only [ciR] at h
    by_cases hc : ci1 x (leB x.Key last) ≠ 0
    · rw [if_pos hc] at h; exact absurd h hc
    · rw [if_neg hc] at h
      have hc' : ci1 x (leB x.Key last) = 0 := by omega
      have hx : keyP x.Key = true ∧ 1 ≤ x.Weight ∧ x.Weight ≤ 100 := by
        unfold ci1 ci3 at hc'
        cases hk : keyP x.Key
        · rw [hk] at hc'; simp at hc'
        · cases hq : leB x.Key last
          · rw [hk, hq] at hc'
            cases ho : outP x.Weight 1 100
            · unfold outP at ho
              simp only [Bool.or_eq_false_iff, decide_eq_false_iff_not] at ho
              exact ⟨rfl, by omega⟩
            · rw [ho] at hc'; simp at hc'
          · rw [hk, hq] at hc'; simp at hc'
      intro y hy
      rcases List.mem_cons.1 hy with rfl | hy
      · exact hx
      · exact ciR_good l x.Key h y hy
theorem insG_of {xs : List S_api_Instance} (h : ciF xs = 0) : InsG xs := by
  have hs := ciF_srt h
  unfold ciF at h
  split at h
  · omega
  · exact ⟨hs, by omega, fun x hx => (ciR_good xs [] h x hx).1, fun x hx => (ciR_good xs [] h x hx).2⟩
theorem srt_mem {xs : List S_api_Instance} (h : Srt xs) {x y : S_api_Instance} (hx : x ∈ xs) (hy : y ∈ xs) (hk : x.Key = y.Key) : x = y := by
  obtain ⟨i, hi, rfl⟩ := List.mem_iff_getElem.1 hx
  obtain ⟨j, hj, rfl⟩ := List.mem_iff_getElem.1 hy
  rcases Nat.lt_trichotomy i j with hij | rfl | hij
  · have := srt_at h (List.getElem?_eq_getElem hi) (List.getElem?_eq_getElem hj) hij
    rw [hk, (cmp_zero _ _).2 rfl] at this; omega
  · rfl
  · have := srt_at h (List.getElem?_eq_getElem hj) (List.getElem?_eq_getElem hi) hij
    rw [hk, (cmp_zero _ _).2 rfl] at this; omega
/-- the sum of bytes -/
def hst (h : Int) (c : UInt8) : Int := IntKind.wrap .u64 ((xor_ .u64 h (IntKind.wrap .u64 (c.toNat : Int))) * 1099511628211)
def hsh (l : Bs) : Int := l.foldl hst 14695981039346656037
theorem hash_msg : ∀ (l : Bs) (k : Nat) (h : Int), forL (fun (k : Nat) (x : UInt8) (s : Int) => upstream_Hash_L1 k x s) (fun (s : Int) => upstream_Hash_E1 s) k l h = upstream_Hash_E1 (l.foldl hst h)
  | [], k, h => rfl
  | x :: l, k, h => hash_msg l (k + 1) (hst h x)
theorem hash_ref : ∀ (l : Bs) (k : Nat) (h : Int), forL (fun (k : Nat) (x : UInt8) (s : Int) => gateref2_hashed_L1 k x s) (fun (s : Int) => gateref2_hashed_E1 s) k l h = gateref2_hashed_E1 (l.foldl hst h)
  | [], k, h => rfl
  | x :: l, k, h => hash_ref l (k + 1) (hst h x)
def mixH (h : Int) : Int := xor_ .u64 h (shr_ .u64 h 32)
theorem hashM_eq (s : Bs) (h : s.length ≤ 1000000000) : m_upstream_Hash s = some (mixH (hsh s)) := by
  unfold m_upstream_Hash
  rw [if_pos h, hash_msg]; rfl
theorem hashR_eq (a b : Bs) (h1 : a.length ≤ 1000) (h2 : b.length ≤ 1000) : m_gateref2_hashed [a, b] = some (hsh ((a ++ [0]) ++ b)) := by
  have e : Lib.join [a, b] [0] = (a ++ [0]) ++ b := by
    rw [Lib.join_cons]; simp [Lib.joinTail]
  unfold m_gateref2_hashed m_strings_Join
  rw [e, if_pos ⟨by simp, by simp; omega⟩]
  simp only [Option.bind_some]
  rw [if_pos (by simp; omega), hash_ref]; rfl
/-- points -/
def ptH (key : Bs) (x : S_api_Instance) : Int := wr ((IntKind.wrap .i64 (Int.tmod (mixH (hsh ((key ++ [0]) ++ x.Key))) 1000003)) * x.Weight)
theorem tmod_rng (n : Int) : -1000002 ≤ Int.tmod n 1000003 ∧ Int.tmod n 1000003 ≤ 1000002 := by
  have h1 := Int.tmod_lt_of_pos n (show (0 : Int) < 1000003 by decide)
  have h2 : -1000003 < Int.tmod n 1000003 := by
    have := Int.tmod_lt_of_pos (-n) (show (0 : Int) < 1000003 by decide)
    rw [Int.neg_tmod] at this; omega
  omega
theorem ptH_rng (key : Bs) (x : S_api_Instance) (h : 1 ≤ x.Weight ∧ x.Weight ≤ 100) : -200000000 ≤ ptH key x ∧ ptH key x ≤ 200000000 := by
  have ht := tmod_rng (mixH (hsh ((key ++ [0]) ++ x.Key)))
  unfold ptH
  generalize Int.tmod (mixH (hsh ((key ++ [0]) ++ x.Key))) 1000003 = t at *
  have e1 : IntKind.wrap .i64 t = t := wr_id (by omega)
  rw [e1]
  have h1 : t * x.Weight ≤ 1000002 * 100 := by
    rcases Int.le_total 0 t with h0 | h0
    · exact Int.mul_le_mul ht.2 h.2 (by omega) (by omega)
    · have : t * x.Weight ≤ 0 := Int.mul_nonpos_of_nonpos_of_nonneg h0 (by omega)
      omega
  have h2 : -(1000002 * 100) ≤ t * x.Weight := by
    rcases Int.le_total 0 t with h0 | h0
    · have : 0 ≤ t * x.Weight := Int.mul_nonneg h0 (by omega)
      omega
    · have h3 : (-t) * x.Weight ≤ 1000002 * 100 := Int.mul_le_mul (by omega) h.2 (by omega) (by omega)
      have h4 : (-t) * x.Weight = -(t * x.Weight) := Int.neg_mul t x.Weight
      omega
  rw [wr_id (by omega)]
  omega
def ptM (key : Bs) : List S_api_Instance → (Bs → Int) → (Bs → Int)
  | [], m => m
  | x :: l, m => ptM key l (upm m x.Key (ptH key x))
theorem ptM_rng (key : Bs) : ∀ (l : List S_api_Instance) (m : Bs → Int), (∀ x, x ∈ l → 1 ≤ x.Weight ∧ x.Weight ≤ 100) → (∀ k, -200000000 ≤ m k ∧ m k ≤ 200000000) → ∀ k, -200000000 ≤ ptM key l m k ∧ ptM key l m k ≤ 200000000
  | [], m, _, hm => hm
  | x :: l, m, h, hm => ptM_rng key l _ (fun y hy => h y (List.mem_cons_of_mem _ hy)) fun k => by
    unfold upm
    split
    · exact ptH_rng key x (h x (by simp))
    · exact hm k
theorem ordM_go (key : Bs) (xs : List S_api_Instance) (hk : key.length ≤ 1000) : ∀ (l : List S_api_Instance) (k : Nat) (m : Bs → Int) (n : Nat), (∀ x, x ∈ l → x.Key.length ≤ 1000 ∧ 1 ≤ x.Weight ∧ x.Weight ≤ 100) → n + l.length ≤ 1000 →
    forL (fun (k : Nat) (x : S_api_Instance) (s : (Bs → Int) × Nat) => upstream_ordered_L1 key k x s.1 s.2) (fun (s : (Bs → Int) × Nat) => upstream_ordered_E1 xs s.1 s.2) k l (m, n) = upstream_ordered_E1 xs (ptM key l m) (n + l.length)
  | [], k, m, n, _, _ => rfl
  | x :: l, k, m, n, h, hn => by
    simp only [List.length_cons] at hn
    obtain ⟨h1, h2⟩ := h x (by simp)
    have hr := ptH_rng key x h2
    have hst : upstream_ordered_L1 key k x m n = some (.inl (upm m x.Key (ptH key x), n + 1)) := by
      unfold upstream_ordered_L1
      rw [if_pos (by simp; omega), if_pos (by simp; omega), hashM_eq _ (by simp; omega)]
      simp only [Option.bind_some]
      rw [if_pos ⟨by omega, by omega, by unfold ptH at hr; omega, by unfold ptH at hr; omega⟩]; rfl
    show (upstream_ordered_L1 key k x m n).bind _ = _
    rw [hst]
    refine Eq.trans (ordM_go key xs hk l (k + 1) _ (n + 1) (fun y hy => h y (List.mem_cons_of_mem _ hy)) (by omega)) ?_
    show upstream_ordered_E1 xs (ptM key l _) (n + 1 + l.length) = upstream_ordered_E1 xs (ptM key l _) (n + (l.length + 1))
    rw [show n + 1 + l.length = n + (l.length + 1) by omega]
theorem ordR_go (key : Bs) (hk : key.length ≤ 1000) : ∀ (l : List S_api_Instance) (k : Nat) (m : Bs → Int) (n : Nat) (q : List Bs), (∀ x, x ∈ l → x.Key.length ≤ 1000 ∧ 1 ≤ x.Weight ∧ x.Weight ≤ 100) → n + l.length ≤ 1000 → q.length + l.length ≤ 1000 →
    forL (fun (k : Nat) (x : S_api_Instance) (s : (Bs → Int) × Nat × (List Bs)) => gateref2_OrderOf_L1 key k x s.1 s.2.1 s.2.2) (fun (s : (Bs → Int) × Nat × (List Bs)) => gateref2_OrderOf_E1 s.1 s.2.1 s.2.2) k l (m, n, q) = gateref2_OrderOf_E1 (ptM key l m) (n + l.length) (q ++ l.map fun x => x.Key)
  | [], k, m, n, q, _, _, _ => by
    show gateref2_OrderOf_E1 m n q = gateref2_OrderOf_E1 m (n + 0) (q ++ [])
    rw [List.append_nil]; rfl
  | x :: l, k, m, n, q, h, hn, hq => by
    simp only [List.length_cons] at hn hq
    obtain ⟨h1, h2⟩ := h x (by simp)
    have hr := ptH_rng key x h2
    have hst : gateref2_OrderOf_L1 key k x m n q = some (.inl (upm m x.Key (ptH key x), n + 1, q ++ [x.Key])) := by
      unfold gateref2_OrderOf_L1
      rw [hashR_eq _ _ hk h1]
      simp only [Option.bind_some]
      rw [if_pos ⟨by omega, by omega, by unfold ptH mixH at hr; omega, by unfold ptH mixH at hr; omega⟩, if_pos (by omega)]; rfl
    show (gateref2_OrderOf_L1 key k x m n q).bind _ = _
    rw [hst]
    refine Eq.trans (ordR_go key hk l (k + 1) _ (n + 1) _ (fun y hy => h y (List.mem_cons_of_mem _ hy)) (by omega) (by simp; omega)) ?_
    rw [show n + 1 + l.length = n + (x :: l).length by simp only [List.length_cons]; omega]
    simp only [List.map_cons, List.append_assoc, List.singleton_append]; rfl
/-- the two sorts -/
theorem cmpInt_eq (x y : Int) : m_cmp_Compare_int_ x y = some (if x < y then -1 else if y < x then 1 else 0) := by
  unfold m_cmp_Compare_int_ m_cmp_isNaN_int_
  simp only [Option.bind_some]
  rw [if_neg (by simp), if_neg (by simp)]
  by_cases h1 : x < y
  · rw [if_pos (by simpa using h1), if_pos h1]
  · rw [if_neg (by simpa using h1), if_neg h1]
    by_cases h2 : y < x
    · rw [if_pos (by simpa using h2), if_pos h2]
    · rw [if_neg (by simpa using h2), if_neg h2]
theorem or_two (a b : Int) : m_cmp_Or_int_ [a, b] = some (if a ≠ 0 then a else b) := by
  unfold m_cmp_Or_int_
  rw [if_pos (by simp)]
  show (cmp_Or_int__L1 0 a).bind _ = _
  unfold cmp_Or_int__L1
  by_cases ha : a = 0
  · rw [if_neg (by simp [ha]), if_neg (by simp [ha])]
    show (cmp_Or_int__L1 1 b).bind _ = _
    unfold cmp_Or_int__L1
    by_cases hb : b = 0
    · rw [if_neg (by simp [hb]), hb]; rfl
    · rw [if_pos (by simp [hb])]; rfl
  · rw [if_pos (by simp [ha]), if_pos ha]; rfl
theorem sign_eq (n : Int) : m_gateref2_sign n = some (if n < 0 then -1 else if 0 < n then 1 else 0) := by
  unfold m_gateref2_sign
  by_cases h1 : n < 0
  · rw [if_pos (by simpa using h1), if_pos h1]
  · rw [if_neg (by simpa using h1), if_neg h1]
    by_cases h2 : 0 < n
    · rw [if_pos (by simpa using h2), if_pos h2]
    · rw [if_neg (by simpa using h2), if_neg h2]
theorem pair_good (m : Bs → Int) (n : Nat) (x y : S_api_Instance) (hm : ∀ k, -200000000 ≤ m k ∧ m k ≤ 200000000) (hx : x.Key.length ≤ 1000) (hy : y.Key.length ≤ 1000) (hc : cmpL y.Key x.Key < 0) :
    goodP (fun (a0 : S_api_Instance) (a1 : S_api_Instance) => m_upstream_ordered_1 a0 a1 (n, m)) (fun (a0 : Bs) (a1 : Bs) => m_gateref2_OrderOf_1 a0 a1 (n, m)) (fun x => x.Key) x y := by
  have h1 := hm x.Key
  have h2 := hm y.Key
  have hsw := cmp_swap y.Key x.Key
  have e1 : m_upstream_ordered_1 x y (n, m) = some (if (if m y.Key < m x.Key then (-1 : Int) else if m x.Key < m y.Key then 1 else 0) ≠ 0 then (if m y.Key < m x.Key then (-1 : Int) else if m x.Key < m y.Key then 1 else 0) else Lib.compareBytes x.Key y.Key) := by
    unfold m_upstream_ordered_1 m_strings_Compare
    rw [if_pos (by omega), if_pos (by omega), cmpInt_eq]
    simp only [Option.bind_some, or_two]
  have e2 : m_gateref2_OrderOf_1 x.Key y.Key (n, m) = some (if m y.Key - m x.Key < 0 then (-1 : Int) else if 0 < m y.Key - m x.Key then 1 else 0) := by
    unfold m_gateref2_OrderOf_1
    rw [if_pos (by omega), if_pos (by omega), sign_eq]
    simp only [Option.bind_some]
    rw [wr_id (by omega)]
  refine ⟨_, _, e1, e2, ?_⟩
  have h5 : Lib.compareBytes x.Key y.Key = - cmpL y.Key x.Key := hsw
  have h6 : ¬ Lib.compareBytes x.Key y.Key < 0 := by omega
  by_cases h3 : m y.Key < m x.Key
  · have e : m y.Key - m x.Key < 0 := by omega
    simp [h3, e]
  · by_cases h4 : m x.Key < m y.Key
    · have e : ¬ m y.Key - m x.Key < 0 := by omega
      have e' : 0 < m y.Key - m x.Key := by omega
      simp only [if_neg h3, if_pos h4, if_neg e, if_pos e']
      simp
    · have e : ¬ m y.Key - m x.Key < 0 := by omega
      have e' : ¬ 0 < m y.Key - m x.Key := by omega
      simp only [if_neg h3, if_neg h4, if_neg e, if_neg e', ne_eq, not_true_eq_false, if_false]
      omega
theorem len_small (n : Nat) (h : n ≤ 12) : ∃ v, m_math_bits_Len (IntKind.wrap .u64 (n : Int)) = some v := by
  have h1 : ((List.range 13).all fun n => (m_math_bits_Len (IntKind.wrap .u64 (n : Int))).isSome) = true := by decide +kernel
  have h2 := List.all_eq_true.1 h1 n (by simp; omega)
  exact Option.isSome_iff_exists.1 h2
theorem ordered_two (xs : List S_api_Instance) (key : Bs) (hg : InsG xs) (hn : xs.length ≤ 12) (hk : key.length ≤ 1000) : ∃ r, r.Perm xs ∧ m_upstream_ordered xs key = some r ∧ m_gateref2_OrderOf xs key = some (r.map fun x => x.Key) := by
  have hb : ∀ x, x ∈ xs → x.Key.length ≤ 1000 ∧ 1 ≤ x.Weight ∧ x.Weight ≤ 100 := fun x hx => ⟨by have := (key_len (hg.key x hx)).1; omega, hg.wgt x hx⟩
  have hm := ptM_rng key xs (fun _ => 0) (fun x hx => hg.wgt x hx) (fun _ => by omega)
  obtain ⟨r, r1, r2, r3⟩ := gIns_two (p := fun (a0 : S_api_Instance) (a1 : S_api_Instance) => m_upstream_ordered_1 a0 a1 (0 + xs.length, ptM key xs fun _ => 0)) (q := fun (a0 : Bs) (a1 : Bs) => m_gateref2_OrderOf_1 a0 a1 (0 + xs.length, ptM key xs fun _ => 0)) (f := fun x : S_api_Instance => x.Key) xs (by omega)
    (hg.srt.imp_of_mem fun {y x} hy hx hc => pair_good _ _ x y hm (hb x hx).1 (hb y hy).1 hc)
  have hl := r1.length_eq
  obtain ⟨v, hv⟩ := len_small xs.length hn
  refine ⟨r, r1, ?_, ?_⟩
  · unfold m_upstream_ordered
    rw [if_pos (by omega), ordM_go key xs hk xs 0 _ 0 hb (by omega)]
    unfold upstream_ordered_E1 m_slices_Clone
    rw [if_pos (by omega)]
    simp only [Option.bind_some]
    unfold m_slices_SortFunc_L_api_Instance_api_Instance_
    rw [hv]
    simp only [Option.bind_some]
    have e : m_slices_pdqsortCmpFunc_api_Instance_ xs 0 (xs.length : Int) v (fun (a0 : S_api_Instance) (a1 : S_api_Instance) => m_upstream_ordered_1 a0 a1 (0 + xs.length, ptM key xs fun _ => 0)) = some r :=
      gPdq_eq xs r _ v hn r2 hl
    rw [e]
    simp only [Option.bind_some]
    rw [if_pos hl]
    simp only [Option.bind_some]
    rw [if_pos hl]
  · unfold m_gateref2_OrderOf
    rw [if_pos (by omega), ordR_go key hk xs 0 _ 0 [] hb (by omega) (by simp; omega)]
    unfold gateref2_OrderOf_E1
    rw [List.nil_append]
    unfold m_slices_SortStableFunc_L_string_string_
    rw [List.length_map]
    have hl2 : (r.map fun x => x.Key).length = (xs.map fun x => x.Key).length := by simp [hl]
    have e : m_slices_stableCmpFunc_string_ (xs.map fun x => x.Key) (xs.length : Int) (fun (a0 : Bs) (a1 : Bs) => m_gateref2_OrderOf_1 a0 a1 (0 + xs.length, ptM key xs fun _ => 0)) = some (r.map fun x => x.Key) := by
      have := gStab_eq (xs.map fun x => x.Key) (r.map fun x => x.Key) (fun (a0 : Bs) (a1 : Bs) => m_gateref2_OrderOf_1 a0 a1 (0 + xs.length, ptM key xs fun _ => 0)) (by simp; omega) (by rw [List.length_map]; exact r3) hl2
      rw [List.length_map] at this
      exact this
    rw [e]
    simp only [Option.bind_some]
    rw [if_pos (by simp [hl])]
    simp only [Option.bind_some]
    rw [if_pos (by simp [hl])]

/-- weights -/
def wS : List S_api_Instance → Int → Int
  | [], a => a
  | x :: l, a => wS l (wr (a + x.Weight))
theorem wS_rng : ∀ (l : List S_api_Instance) (a : Int), (∀ x, x ∈ l → 1 ≤ x.Weight ∧ x.Weight ≤ 100) → 0 ≤ a → a + 100 * (l.length : Int) ≤ 100000 → 0 ≤ wS l a ∧ wS l a ≤ a + 100 * (l.length : Int)
  | [], a, _, h0, h1 => ⟨h0, by simp [wS]⟩
  | x :: l, a, h, h0, h1 => by
    have hx := h x (by simp)
    simp only [List.length_cons] at h1 ⊢
    show 0 ≤ wS l (wr (a + x.Weight)) ∧ wS l (wr (a + x.Weight)) ≤ _
    rw [wr_id (n := a + x.Weight) (by omega)]
    have := wS_rng l (a + x.Weight) (fun y hy => h y (List.mem_cons_of_mem _ hy)) (by omega) (by omega)
    omega
theorem weights_go : ∀ (l : List S_api_Instance) (k : Nat) (a : Int), forL (fun (k : Nat) (x : S_api_Instance) (s : Int) => upstream_weights_L1 k x s) (fun (s : Int) => upstream_weights_E1 s) k l a = some (wS l a)
  | [], k, a => rfl
  | x :: l, k, a => weights_go l (k + 1) (wr (a + x.Weight))
theorem weights_eq (xs : List S_api_Instance) (h : xs.length ≤ 1000000000) : m_upstream_weights xs = some (wS xs 0) := by
  unfold m_upstream_weights
  rw [if_pos h, weights_go]
/-- turns of a round -/
def nm (S t : Int) (x : S_api_Instance) (c : Int) : Int := t * x.Weight - c * S
theorem nm_rng {t w c S : Int} (ht : 0 ≤ t ∧ t ≤ 3000) (hw : 1 ≤ w ∧ w ≤ 100) (hc : 0 ≤ c ∧ c ≤ 3000) (hS : 0 ≤ S ∧ S ≤ 5000) : (0 ≤ t * w ∧ t * w ≤ 3000 * 100) ∧ (0 ≤ c * S ∧ c * S ≤ 3000 * 5000) :=
  ⟨⟨Int.mul_nonneg ht.1 (by omega), Int.mul_le_mul ht.2 hw.2 (by omega) (by omega)⟩, Int.mul_nonneg hc.1 hS.1, Int.mul_le_mul hc.2 hS.2 hS.1 (by omega)⟩
theorem nm_up (S t : Int) (x : S_api_Instance) (c : Int) : nm S (t + 1) x c = nm S t x c + x.Weight := by
  unfold nm
  rw [Int.add_mul, Int.one_mul]; omega
theorem nm_more (S t : Int) (x : S_api_Instance) (c : Int) : nm S t x (c + 1) = nm S t x c - S := by
  unfold nm
  rw [Int.add_mul, Int.one_mul]; omega
def RT (xs : List S_api_Instance) (S : Int) (t : Nat) (l T : List Int) : Prop :=
  l.length = xs.length ∧ T.length = xs.length ∧ ∀ (i : Nat) x c, xs[i]? = some x → T[i]? = some c → (0 ≤ c ∧ c ≤ (t : Int)) ∧ l[i]? = some (nm S (t : Int) x c)
def RI (xs : List S_api_Instance) (S : Int) (t : Nat) (T : List Int) (k : Nat) (s : Int × List Int) (s' : Int × Int) : Prop :=
  s.1 = s'.1 ∧ s.2.length = xs.length ∧ (∀ (i : Nat) x c, xs[i]? = some x → T[i]? = some c → s.2[i]? = some (if i < k then nm S ((t : Int) + 1) x c else nm S (t : Int) x c)) ∧
  (k = 0 → s.1 = 0) ∧ (0 < k → ∃ (j : Nat) (x : S_api_Instance) (c : Int), s.1 = (j : Int) ∧ j < k ∧ xs[j]? = some x ∧ T[j]? = some c ∧ s'.2 = nm S ((t : Int) + 1) x c)
theorem turn_two (xs : List S_api_Instance) (S : Int) (hg : InsG xs) (hn : xs ≠ []) (hS : 0 ≤ S ∧ S ≤ 5000) (t : Nat) (ht : t ≤ 2000) (l T : List Int) (out : List Bs) (hR : RT xs S t l T) (ho : out.length ≤ 10000) :
    ∃ l2 T2 key, upstream_Round_L1 xs S t l out = some (.inl (l2, out ++ [key])) ∧ gateref2_RoundOf_L2 xs S t T out = some (.inl (T2, out ++ [key])) ∧ RT xs S (t + 1) l2 T2 := by
  obtain ⟨h1, h2, h3⟩ := hR
  have hlen := hg.len
  have hpos : 0 < xs.length := List.length_pos_iff.2 hn
  unfold upstream_Round_L1 gateref2_RoundOf_L2
  rw [if_pos (by omega), if_pos (by omega)]
  have key := forL_rel (body := fun (k : Nat) (x : S_api_Instance) (s : Int × (List Int)) => upstream_Round_L2 k x s.1 s.2) (body' := fun (k : Nat) (x : S_api_Instance) (s : Int × Int) => gateref2_RoundOf_L3 S T t k x s.1 s.2)
    (fin := fun (s : Int × (List Int)) => upstream_Round_E2 xs S out s.1 s.2) (fin' := fun (s : Int × Int) => gateref2_RoundOf_E3 xs T out s.1 s.2) (RI xs S t T)
    (fun r r' => ∃ l2 T2 key, r = .inl (l2, out ++ [key]) ∧ r' = .inl (T2, out ++ [key]) ∧ RT xs S (t + 1) l2 T2) xs 0 (0, l) (0, 0)
    ⟨rfl, h1, fun i x c hx hc => by rw [if_neg (by omega)]; exact (h3 i x c hx hc).2, fun _ => rfl, fun h => by omega⟩ ?_ ?_
  · obtain ⟨r, r', q1, q2, l2, T2, ky, rfl, rfl, q3⟩ := key
    exact ⟨l2, T2, ky, q1, q2, q3⟩
  · rintro k x ⟨b, l'⟩ ⟨b', most⟩ _ hx ⟨r1, r2, r3, r4, r5⟩
    simp only at r1 r2 r3 r4 r5
    rw [Nat.sub_zero] at hx
    have hk := lt_some hx
    obtain ⟨c, hc⟩ : ∃ c, T[k]? = some c := ⟨_, List.getElem?_eq_getElem (by omega)⟩
    have hcr := (h3 k x c hx hc).1
    have hw := hg.wgt x (List.mem_of_getElem? hx)
    have hrg := nm_rng (t := (t : Int) + 1) (w := x.Weight) (c := c) (S := S) (by omega) hw (by omega) hS
    have hlk : l'[k]? = some (nm S (t : Int) x c) := by rw [r3 k x c hx hc, if_neg (by omega)]
    have hup := nm_up S (t : Int) x c
    have e1 : wr (nm S (t : Int) x c + x.Weight) = nm S ((t : Int) + 1) x c := by
      rw [← hup, wr_id]
      unfold nm; omega
    have e2 : wr ((wr (((t : Int) + 1) * x.Weight)) - (wr (c * S))) = nm S ((t : Int) + 1) x c := by
      rw [wr_id (n := ((t : Int) + 1) * x.Weight) (by omega), wr_id (n := c * S) (by omega), wr_id (by omega)]; rfl
    have e3 : (l'.set k (nm S ((t : Int) + 1) x c))[k]? = some (nm S ((t : Int) + 1) x c) := List.getElem?_set_self (by omega)
    have hst : ∀ (i : Nat) y d, xs[i]? = some y → T[i]? = some d → (l'.set k (nm S ((t : Int) + 1) x c))[i]? = some (if i < k + 1 then nm S ((t : Int) + 1) y d else nm S (t : Int) y d) := fun i y d hy hd => by
      by_cases hik : i = k
      · subst hik
        rw [hx] at hy; cases hy
        rw [hc] at hd; cases hd
        rw [e3, if_pos (by omega)]
      · rw [List.getElem?_set_ne (fun h => hik h.symm), r3 i y d hy hd]
        by_cases h : i < k
        · rw [if_pos h, if_pos (by omega)]
        · rw [if_neg h, if_neg (by omega)]
    have hP : ∀ v, at? (l'.set k (nm S ((t : Int) + 1) x c)) b = some v → upstream_Round_L2 k x b l' = some (.inl (if v < nm S ((t : Int) + 1) x c then (k : Int) else b, l'.set k (nm S ((t : Int) + 1) x c))) := fun v hv => by
      unfold upstream_Round_L2 upstream_Round_J3
      rw [hlk]
      simp only [Option.bind_some]
      rw [e1, e3]
      simp only [Option.bind_some]
      rw [hv]
      simp only [Option.bind_some]
      by_cases h : v < nm S ((t : Int) + 1) x c
      · rw [if_pos (by simpa using h), if_pos h]
      · rw [if_neg (by simpa using h), if_neg h]
    have hQ : gateref2_RoundOf_L3 S T t k x b' most = some (.inl (if k = 0 ∨ most < nm S ((t : Int) + 1) x c then ((k : Int), nm S ((t : Int) + 1) x c) else (b', most))) := by
      unfold gateref2_RoundOf_L3 gateref2_RoundOf_J4
      rw [hc]
      simp only [Option.bind_some]
      rw [e2]
      by_cases h : k = 0 ∨ most < nm S ((t : Int) + 1) x c
      · rw [if_pos h, if_pos]
        rcases h with h | h <;> simp [h]
      · rw [if_neg h, if_neg]
        have ha : ¬ k = 0 := fun h1 => h (.inl h1)
        have hb : ¬ most < nm S ((t : Int) + 1) x c := fun h1 => h (.inr h1)
        simp [ha]; omega
    left
    by_cases hk0 : k = 0
    · subst hk0
      have hb0 := r4 rfl
      rw [hP (nm S ((t : Int) + 1) x c) (by rw [hb0]; exact e3), hQ, if_neg (by omega), if_pos (.inl rfl)]
      exact ⟨_, _, rfl, rfl, by rw [hb0]; rfl, by simp [r2], hst, fun h => by omega, fun _ => ⟨0, x, c, by rw [hb0]; rfl, by omega, hx, hc, rfl⟩⟩
    · obtain ⟨j, y, d, s1, s2, s3, s4, s5⟩ := r5 (by omega)
      have hat : at? (l'.set k (nm S ((t : Int) + 1) x c)) b = some most := by
        rw [s1, at_nat, List.getElem?_set_ne (by omega), r3 j y d s3 s4, if_pos s2, s5]
      rw [hP most hat, hQ]
      by_cases h : most < nm S ((t : Int) + 1) x c
      · rw [if_pos h, if_pos (.inr h)]
        exact ⟨_, _, rfl, rfl, rfl, by simp [r2], hst, fun h => by omega, fun _ => ⟨k, x, c, rfl, by omega, hx, hc, rfl⟩⟩
      · rw [if_neg h, if_neg (by omega)]
        exact ⟨_, _, rfl, rfl, r1, by simp [r2], hst, fun h => by omega, fun _ => ⟨j, y, d, s1, by omega, s3, s4, s5⟩⟩
  · rintro ⟨b, l'⟩ ⟨b', most⟩ ⟨r1, r2, r3, r4, r5⟩
    simp only [Nat.zero_add] at r1 r2 r3 r4 r5
    obtain ⟨j, y, d, s1, s2, s3, s4, s5⟩ := r5 hpos
    have hdr := (h3 j y d s3 s4).1
    have hw := hg.wgt y (List.mem_of_getElem? s3)
    have hrg := nm_rng (t := (t : Int) + 1) (w := y.Weight) (c := d) (S := S) (by omega) hw (by omega) hS
    have hlj : l'[j]? = some (nm S ((t : Int) + 1) y d) := by rw [r3 j y d s3 s4, if_pos s2]
    have hmore := nm_more S ((t : Int) + 1) y d
    have e1 : wr (nm S ((t : Int) + 1) y d - S) = nm S ((t : Int) + 1) y (d + 1) := by
      rw [← hmore, wr_id]
      rw [hmore]; unfold nm; omega
    have e2 : wr (d + 1) = d + 1 := wr_id (by omega)
    subst s1
    subst r1
    unfold upstream_Round_E2 gateref2_RoundOf_E3
    rw [at_nat, hlj, at_nat, s3, at_nat, s4]
    simp only [Option.bind_some]
    rw [if_pos (by omega), if_pos (by omega), e1, e2, Int.toNat_natCast]
    refine ⟨_, _, rfl, rfl, _, _, y.Key, rfl, rfl, by simp [r2], by simp [h2], fun i z c hz hc => ?_⟩
    rw [Int.natCast_add, Int.natCast_one]
    by_cases hij : i = j
    · subst hij
      rw [s3] at hz; cases hz
      rw [List.getElem?_set_self (by have := lt_some s4; omega)] at hc
      cases hc
      exact ⟨by omega, List.getElem?_set_self (by have := lt_some hlj; omega)⟩
    · rw [List.getElem?_set_ne (fun h => hij h.symm)] at hc
      have h4 := (h3 i z c hz hc).1
      refine ⟨by omega, ?_⟩
      rw [List.getElem?_set_ne (fun h => hij h.symm), r3 i z c hz hc, if_pos (lt_some hz)]
theorem roundW_go (xs : List S_api_Instance) (v : Int) : ∀ (l : List S_api_Instance) (k : Nat) (a : Int), forL (fun (k : Nat) (x : S_api_Instance) (s : Int) => gateref2_RoundOf_L1 k x s) (fun (s : Int) => gateref2_RoundOf_E1 xs v s) k l a = gateref2_RoundOf_E1 xs v (wS l a)
  | [], k, a => rfl
  | x :: l, k, a => roundW_go xs v l (k + 1) (wr (a + x.Weight))
theorem round_two (xs : List S_api_Instance) (n : Nat) (hg : InsG xs) (hn : xs ≠ []) (hb : n ≤ 2000) :
    ∃ r, rng (fun (k : Nat) (s : (List Int) × (List Bs)) => upstream_Round_L1 xs (wS xs 0) k s.1 s.2) (fun (s : (List Int) × (List Bs)) => upstream_Round_E1 s.1 s.2) n 0 ((List.replicate xs.length 0), []) = some (r, 0) ∧ m_gateref2_RoundOf xs (n : Int) = some r ∧ r.length ≤ 2000 := by
  have hlen := hg.len
  have hS := wS_rng xs 0 (fun x hx => hg.wgt x hx) (by omega) (by omega)
  unfold m_gateref2_RoundOf
  rw [if_pos (by omega), roundW_go]
  unfold gateref2_RoundOf_E1
  rw [if_pos (by omega), if_pos (by omega), Int.toNat_natCast]
  have key := rng_rel (body := fun (k : Nat) (s : (List Int) × (List Bs)) => upstream_Round_L1 xs (wS xs 0) k s.1 s.2) (body' := fun (k : Nat) (s : (List Int) × (List Bs)) => gateref2_RoundOf_L2 xs (wS xs 0) k s.1 s.2)
    (fin := fun (s : (List Int) × (List Bs)) => upstream_Round_E1 s.1 s.2) (fin' := fun (s : (List Int) × (List Bs)) => gateref2_RoundOf_E2 s.1 s.2)
    (fun t s s' => t ≤ n ∧ s.2 = s'.2 ∧ s.2.length ≤ t ∧ RT xs (wS xs 0) t s.1 s'.1) (fun r r' => r = (r', 0) ∧ r'.length ≤ 2000) n 0 ((List.replicate xs.length 0), []) ((List.replicate xs.length 0), [])
    ⟨by omega, rfl, by simp, by simp, by simp, fun i x c hx hc => ?_⟩ ?_ ?_
  · obtain ⟨r, r', q1, q2, rfl, q3⟩ := key
    exact ⟨r', q1, q2, q3⟩
  · have hi := lt_some hx
    rw [List.getElem?_replicate, if_pos hi] at hc
    cases hc
    refine ⟨by omega, ?_⟩
    rw [List.getElem?_replicate, if_pos hi]
    simp [nm]
  · rintro t ⟨l, out⟩ ⟨T, out'⟩ _ ht ⟨g0, g1, g2, g3⟩
    simp only at g1 g2 g3 ⊢
    subst g1
    obtain ⟨l2, T2, ky, q1, q2, q3⟩ := turn_two xs (wS xs 0) hg hn ⟨hS.1, by omega⟩ t (by omega) l T out g3 (by omega)
    exact ⟨_, _, q1, q2, by omega, rfl, by simp; omega, q3⟩
  · rintro ⟨l, out⟩ ⟨T, out'⟩ ⟨g0, g1, g2, g3⟩
    simp only at g1 g2 g3 ⊢
    subst g1
    exact ⟨_, _, rfl, rfl, rfl, by omega⟩

/-- loads -/
def ldF : List S_api_Load → Bs → Int
  | [], _ => 0
  | x :: l, key => if x.Instance = key then x.Many else ldF l key
theorem ldF_go (key : Bs) : ∀ (l : List S_api_Load) (k : Nat), forL (fun (k : Nat) (x : S_api_Load) (s : Unit) => gateref2_loadOf_L1 key k x) (fun (s : Unit) => gateref2_loadOf_E1) k l () = some (ldF l key)
  | [], k => rfl
  | x :: l, k => by
    show (gateref2_loadOf_L1 key k x).bind _ = some (if x.Instance = key then x.Many else ldF l key)
    unfold gateref2_loadOf_L1
    by_cases h : x.Instance = key
    · rw [if_pos (by simpa using h), if_pos h]; rfl
    · rw [if_neg (by simpa using h), if_neg h]
      exact ldF_go key l (k + 1)
theorem loadOf_eq (l : List S_api_Load) (key : Bs) (h : l.length ≤ 1000000000) : m_gateref2_loadOf l key = some (ldF l key) := by
  unfold m_gateref2_loadOf
  rw [if_pos h, ldF_go]
theorem ldF_snoc (key : Bs) (x : S_api_Load) : ∀ l : List S_api_Load, (∀ y, y ∈ l → y.Instance ≠ x.Instance) → ldF (l ++ [x]) key = if x.Instance = key then x.Many else ldF l key
  | [], _ => rfl
  | y :: l, h => by
    show (if y.Instance = key then y.Many else ldF (l ++ [x]) key) = (if x.Instance = key then x.Many else if y.Instance = key then y.Many else ldF l key)
    rw [ldF_snoc key x l fun z hz => h z (List.mem_cons_of_mem _ hz)]
    have hy := h y (by simp)
    by_cases h1 : y.Instance = key
    · rw [if_pos h1, if_neg (fun h2 => hy (h1.trans h2.symm)), if_pos h1]
    · rw [if_neg h1, if_neg h1]
def lfR (xs : List S_api_Instance) : List S_api_Load → Bs → Int
  | [], _ => 0
  | x :: l, last => if (!hasK xs x.Instance) = true then 8 else if leB x.Instance last = true then 7 else if outP x.Many 0 1000000 = true then 1 else lfR xs l x.Instance
theorem lfR_go (xs : List S_api_Instance) (hx : xs.length ≤ 1000) : ∀ (l : List S_api_Load) (k : Nat) (last : Bs), forL (fun (k : Nat) (x : S_api_Load) (s : Bs) => gateref2_LoadsFault_L1 xs k x s) (fun (s : Bs) => gateref2_LoadsFault_E1 s) k l last = some (lfR xs l last)
  | [], k, last => rfl
  | x :: l, k, last => by
    obtain ⟨r, r1, r2⟩ := instAt_ok xs x.Instance hx
    have hst : gateref2_LoadsFault_L1 xs k x last = if (!hasK xs x.Instance) = true then some (.inr 8) else if leB x.Instance last = true then some (.inr 7) else if outP x.Many 0 1000000 = true then some (.inr 1) else some (.inl x.Instance) := by
      unfold gateref2_LoadsFault_L1
      rw [r1]
      simp only [Option.bind_some]
      rw [r2]
      simp only [in_eq, Option.bind_some, Bool.not_not]
      rfl
    show (gateref2_LoadsFault_L1 xs k x last).bind _ = some (if (!hasK xs x.Instance) = true then 8 else if leB x.Instance last = true then 7 else if outP x.Many 0 1000000 = true then 1 else lfR xs l x.Instance)
    rw [hst]
    by_cases h1 : (!hasK xs x.Instance) = true
    · rw [if_pos h1, if_pos h1]; rfl
    · rw [if_neg h1, if_neg h1]
      by_cases h2 : leB x.Instance last = true
      · rw [if_pos h2, if_pos h2]; rfl
      · rw [if_neg h2, if_neg h2]
        by_cases h3 : outP x.Many 0 1000000 = true
        · rw [if_pos h3, if_pos h3]; rfl
        · rw [if_neg h3, if_neg h3]
          exact lfR_go xs hx l (k + 1) x.Instance
def lfF (xs : List S_api_Instance) (l : List S_api_Load) : Int := if 50 < (l.length : Int) then 2 else lfR xs l []
theorem loadsFault_eq (xs : List S_api_Instance) (l : List S_api_Load) (hx : xs.length ≤ 1000) : m_gateref2_LoadsFault xs l = some (lfF xs l) := by
  unfold m_gateref2_LoadsFault lfF
  by_cases h : 50 < (l.length : Int)
  · rw [if_pos (by simpa using h), if_pos h]
  · rw [if_neg (by simpa using h), if_neg h, if_pos (by omega), lfR_go xs hx]
theorem lfR_rng (xs : List S_api_Instance) : ∀ (l : List S_api_Load) (last : Bs), lfR xs l last = 0 → ∀ x, x ∈ l → 0 ≤ x.Many ∧ x.Many ≤ 1000000
  | [], _, _ => fun x h => by cases h
  | x :: l, last, h => by
    simp only [lfR] at h
    split at h
    · omega
    · split at h
      · omega
      · split at h
        · omega
        · rename_i ho
          intro y hy
          rcases List.mem_cons.1 hy with rfl | hy
          · unfold outP at ho
            simp only [Bool.or_eq_true, decide_eq_true_eq, not_or] at ho
            omega
          · exact lfR_rng xs l x.Instance h y hy
theorem ldF_rng : ∀ (l : List S_api_Load) (key : Bs), (∀ x, x ∈ l → 0 ≤ x.Many ∧ x.Many ≤ 1000000) → 0 ≤ ldF l key ∧ ldF l key ≤ 1000000
  | [], key, _ => by simp [ldF]
  | x :: l, key, h => by
    simp only [ldF]
    split
    · exact h x (by simp)
    · exact ldF_rng l key fun y hy => h y (List.mem_cons_of_mem _ hy)
def ownL (xs : List S_api_Instance) (l : List S_api_Load) : List Int := xs.map fun x => ldF l x.Key
theorem loadsP_go (xs : List S_api_Instance) (hg : InsG xs) (all : List S_api_Load) (hall : all.length ≤ 1000) : ∀ (l pre : List S_api_Load) (last : Bs), pre ++ l = all → (pre = [] → last = []) → (pre ≠ [] → ∃ y, pre.getLast? = some y ∧ y.Instance = last) → (∀ y, y ∈ pre → y.Instance = last ∨ cmpL y.Instance last < 0) →
    forL (fun (k : Nat) (x : S_api_Load) (s : (List Int)) => upstream_loadsOf_L1 xs all k x s) (fun (s : (List Int)) => upstream_loadsOf_E1 s) pre.length l (ownL xs pre) = some (if lfR xs l last = 0 then (ownL xs all, 0) else ([], lfR xs l last))
  | [], pre, last, ha, _, _, _ => by
    rw [List.append_nil] at ha
    subst ha
    rfl
  | x :: l, pre, last, ha, h0, h1, h2 => by
    have hlx := hg.len
    obtain ⟨r, r1, r2, r3⟩ := place_ok xs x.Instance (by omega) hg.srt
    have hv : lfR xs (x :: l) last = if (!hasK xs x.Instance) = true then 8 else if leB x.Instance last = true then 7 else if outP x.Many 0 1000000 = true then 1 else lfR xs l x.Instance := rfl
    show (upstream_loadsOf_L1 xs all pre.length x (ownL xs pre)).bind _ = _
    rcases Bool.eq_false_or_eq_true (hasK xs x.Instance) with hh | hh
    rotate_left
    · rw [if_pos (by rw [hh]; rfl)] at hv
      rw [hv]
      have : upstream_loadsOf_L1 xs all pre.length x (ownL xs pre) = some (.inr ([], 8)) := by
        unfold upstream_loadsOf_L1
        rw [r1]
        simp only [Option.bind_some]
        rw [if_pos (by rw [r2, hh]; rfl)]
      rw [this]; rfl
    · rw [if_neg (by rw [hh]; simp)] at hv
      obtain ⟨i0, y, i1, i2⟩ := r3 (by rw [r2, hh])
      obtain ⟨i, hi⟩ : ∃ i : Nat, r.1 = (i : Int) := ⟨r.1.toNat, by omega⟩
      rw [hi, Int.toNat_natCast] at i1
      have hyk := hg.key y (List.mem_of_getElem? i1)
      rw [i2] at hyk
      have hil : i < (ownL xs pre).length := by unfold ownL; rw [List.length_map]; exact lt_some i1
      have hJ : upstream_loadsOf_L1 xs all pre.length x (ownL xs pre) = upstream_loadsOf_J2 (ownL xs pre) x r (leB x.Instance last) := by
        unfold upstream_loadsOf_L1
        rw [r1]
        simp only [Option.bind_some]
        rw [if_neg (by rw [r2, hh]; simp)]
        by_cases hp : pre = []
        · subst hp
          rw [h0 rfl, leB_nil hyk]; rfl
        · have hpl := List.length_pos_iff.2 hp
          obtain ⟨z, z1, z2⟩ := h1 hp
          have hat : at? all ((pre.length : Int) - 1) = some z := by
            rw [show (pre.length : Int) - 1 = ((pre.length - 1 : Nat) : Int) by omega, at_nat, ← ha, List.getElem?_append_left (by omega)]
            rw [List.getLast?_eq_getElem?] at z1; exact z1
          rw [if_pos (by simpa using hpl), hat]
          simp only [Option.bind_some]
          rw [z2]; rfl
      rw [hJ]
      unfold upstream_loadsOf_J2
      rcases Bool.eq_false_or_eq_true (leB x.Instance last) with hl | hl
      rotate_left
      · rw [if_neg (by rw [hl]; simp)] at hv
        rw [if_neg (by rw [hl]; simp)]
        simp only [out_eq, Option.bind_some]
        rcases Bool.eq_false_or_eq_true (outP x.Many 0 1000000) with ho | ho
        rotate_left
        · rw [if_neg (by rw [ho]; simp)] at hv
          rw [if_neg (by rw [ho]; simp), hv]
          have hlt := leB_cmp _ _ hl
          have hne : ∀ z, z ∈ pre → cmpL z.Instance x.Instance < 0 := fun z hz => by
            rcases h2 z hz with h | h
            · rw [h]; exact hlt
            · exact cmp_trans _ _ _ h hlt
          have hne' : ∀ z, z ∈ pre → z.Instance ≠ x.Instance := fun z hz h => by
            have := hne z hz
            rw [h, (cmp_zero _ _).2 rfl] at this; omega
          have hat : at? (ownL xs pre) r.1 = some (ownL xs pre)[i] := by rw [hi, at_nat]; exact List.getElem?_eq_getElem hil
          rw [hat]
          simp only [Option.bind_some]
          rw [hi, Int.toNat_natCast]
          have hset : (ownL xs pre).set i x.Many = ownL xs (pre ++ [x]) := by
            apply List.ext_getElem?
            intro j
            unfold ownL
            by_cases hj : j = i
            · subst hj
              rw [List.getElem?_set_self (by unfold ownL at hil; exact hil), List.getElem?_map, i1]
              show some x.Many = some (ldF (pre ++ [x]) y.Key)
              rw [ldF_snoc y.Key x pre hne', if_pos i2.symm]
            · rw [List.getElem?_set_ne (fun h => hj h.symm), List.getElem?_map, List.getElem?_map]
              cases hz : xs[j]? with
              | none => rfl
              | some z =>
                show some (ldF pre z.Key) = some (ldF (pre ++ [x]) z.Key)
                have : ¬ x.Instance = z.Key := fun h => by
                  have hzy := srt_mem hg.srt (List.mem_of_getElem? hz) (List.mem_of_getElem? i1) (by rw [i2, h])
                  subst hzy
                  have h3 := (List.getElem?_eq_some_iff.1 hz)
                  have h4 := (List.getElem?_eq_some_iff.1 i1)
                  obtain ⟨h5, h6⟩ := h3
                  obtain ⟨h7, h8⟩ := h4
                  rcases Nat.lt_trichotomy i j with hij | hij | hij
                  · have := srt_at hg.srt i1 hz hij
                    rw [(cmp_zero _ _).2 rfl] at this; omega
                  · exact hj hij.symm
                  · have := srt_at hg.srt hz i1 hij
                    rw [(cmp_zero _ _).2 rfl] at this; omega
                rw [ldF_snoc z.Key x pre hne', if_neg this]
          rw [hset]
          have ih := loadsP_go xs hg all hall l (pre ++ [x]) x.Instance (by rw [← ha]; simp) (fun h => by simp at h) (fun _ => ⟨x, by simp, rfl⟩) (fun z hz => by
            rcases List.mem_append.1 hz with h | h
            · exact .inr (hne z h)
            · rw [List.mem_singleton.1 h]; exact .inl rfl)
          rw [List.length_append] at ih
          exact ih
        · rw [if_pos ho] at hv
          rw [if_pos ho, hv]; rfl
      · rw [if_pos hl] at hv
        rw [if_pos hl, hv]; rfl
theorem loadsP_eq (xs : List S_api_Instance) (hg : InsG xs) (hc : m_upstream_CheckInstances xs = some 0) (l : List S_api_Load) (hl : l.length ≤ 1000) : m_upstream_loadsOf xs l = some (if lfF xs l = 0 then (ownL xs l, 0) else ([], lfF xs l)) := by
  have hlx := hg.len
  unfold m_upstream_loadsOf lfF
  rw [hc]
  simp only [Option.bind_some]
  rw [if_neg (by simp)]
  by_cases h : 50 < (l.length : Int)
  · rw [if_pos (by simpa using h), if_pos h]; rfl
  · rw [if_neg (by simpa using h), if_neg h, if_pos (by omega), if_pos (by omega)]
    have := loadsP_go xs hg l hl l [] [] rfl (fun _ => rfl) (fun h => absurd rfl h) (fun y hy => by cases hy)
    have e : ownL xs [] = List.replicate xs.length 0 := by
      unfold ownL
      show xs.map (fun _ => (0 : Int)) = _
      rw [List.map_const']
    rw [e] at this
    exact this
/-- the least load -/
theorem least_two (xs : List S_api_Instance) (l : List S_api_Load) (hn : xs ≠ []) (h1 : xs.length ≤ 1000) (h2 : l.length ≤ 1000) : ∃ (j : Nat) (y : S_api_Instance), m_upstream_least xs (ownL xs l) (fun (a0 : Int) => m_upstream_anyOne a0) = some (j : Int) ∧ xs[j]? = some y ∧ m_gateref2_LeastLoad xs l = some y.Key := by
  obtain ⟨x0, rest, rfl⟩ : ∃ x0 rest, xs = x0 :: rest := by
    cases xs with
    | nil => exact absurd rfl hn
    | cons a b => exact ⟨a, b, rfl⟩
  unfold m_upstream_least m_gateref2_LeastLoad
  simp only [List.getElem?_cons_zero, Option.bind_some]
  rw [if_pos (by omega), if_pos (by omega)]
  have hown : ∀ (j : Nat) y, (x0 :: rest)[j]? = some y → (ownL (x0 :: rest) l)[j]? = some (ldF l y.Key) := fun j y hj => by
    unfold ownL
    rw [List.getElem?_map, hj]; rfl
  have key := forL_rel (body := fun (k : Nat) (x : S_api_Instance) (s : Int) => upstream_least_L1 (x0 :: rest) (ownL (x0 :: rest) l) (fun (a0 : Int) => m_upstream_anyOne a0) k x s) (body' := fun (k : Nat) (x : S_api_Instance) (s : Bs × Int) => gateref2_LeastLoad_L1 l k x s.1 s.2)
    (fin := fun (s : Int) => upstream_least_E1 s) (fin' := fun (s : Bs × Int) => gateref2_LeastLoad_E1 s.1 s.2)
    (fun k b s => (k = 0 → b = -1 ∧ s = (x0.Key, x0.Weight)) ∧ (0 < k → ∃ (j : Nat) (y : S_api_Instance), b = (j : Int) ∧ (x0 :: rest)[j]? = some y ∧ s = (y.Key, y.Weight)))
    (fun r r' => ∃ (j : Nat) (y : S_api_Instance), r = (j : Int) ∧ (x0 :: rest)[j]? = some y ∧ r' = y.Key) (x0 :: rest) 0 (-1) (x0.Key, x0.Weight) ⟨fun _ => ⟨rfl, rfl⟩, fun h => by omega⟩ ?_ ?_
  · obtain ⟨r, r', q1, q2, j, y, rfl, q3, rfl⟩ := key
    exact ⟨j, y, q1, q3, q2⟩
  · rintro k x b ⟨c5, c6⟩ _ hx ⟨r0, r1⟩
    rw [Nat.sub_zero] at hx
    left
    have hRef : gateref2_LeastLoad_L1 l k x c5 c6 = some (.inl (if (wr ((wr (ldF l x.Key + 1)) * c6)) < (wr ((wr (ldF l c5 + 1)) * x.Weight)) then (x.Key, x.Weight) else (c5, c6))) := by
      unfold gateref2_LeastLoad_L1 gateref2_LeastLoad_J2
      rw [loadOf_eq l _ (by omega), loadOf_eq l _ (by omega)]
      simp only [Option.bind_some]
      by_cases h : (wr ((wr (ldF l x.Key + 1)) * c6)) < (wr ((wr (ldF l c5 + 1)) * x.Weight))
      · rw [if_pos (by simpa using h), if_pos h]
      · rw [if_neg (by simpa using h), if_neg h]
    by_cases hk : k = 0
    · subst hk
      obtain ⟨hb, hs⟩ := r0 rfl
      cases hs
      simp only [List.getElem?_cons_zero] at hx
      cases hx
      have hM : upstream_least_L1 (x0 :: rest) (ownL (x0 :: rest) l) (fun (a0 : Int) => m_upstream_anyOne a0) 0 x0 b = some (.inl 0) := by
        unfold upstream_least_L1 m_upstream_anyOne
        simp only [Option.bind_some, if_true]
        rw [if_pos (by simp [hb])]; rfl
      refine ⟨_, _, hM, hRef, fun h => by omega, fun _ => ⟨0, x0, rfl, rfl, ?_⟩⟩
      rw [if_neg (by omega)]
    · obtain ⟨j, y, hb, hj, hs⟩ := r1 (by omega)
      cases hs
      have hM : upstream_least_L1 (x0 :: rest) (ownL (x0 :: rest) l) (fun (a0 : Int) => m_upstream_anyOne a0) k x b = some (.inl (if (wr ((wr (ldF l x.Key + 1)) * y.Weight)) < (wr ((wr (ldF l y.Key + 1)) * x.Weight)) then (k : Int) else b)) := by
        unfold upstream_least_L1 m_upstream_anyOne upstream_least_J3 upstream_least_J2
        simp only [Option.bind_some, if_true]
        rw [if_neg (by simp [hb]), hown k x hx]
        simp only [Option.bind_some]
        rw [hb, at_nat, hj]
        simp only [Option.bind_some]
        rw [at_nat, hown j y hj]
        simp only [Option.bind_some]
        by_cases h : (wr ((wr (ldF l x.Key + 1)) * y.Weight)) < (wr ((wr (ldF l y.Key + 1)) * x.Weight))
        · rw [if_pos (by simpa using h), if_pos h]
        · rw [if_neg (by simpa using h), if_neg h]
      refine ⟨_, _, hM, hRef, fun h => by omega, fun _ => ?_⟩
      by_cases h : (wr ((wr (ldF l x.Key + 1)) * y.Weight)) < (wr ((wr (ldF l y.Key + 1)) * x.Weight))
      · rw [if_pos h, if_pos h]; exact ⟨k, x, rfl, hx, rfl⟩
      · rw [if_neg h, if_neg h]; exact ⟨j, y, hb, hj, rfl⟩
  · rintro b ⟨c5, c6⟩ ⟨_, r1⟩
    obtain ⟨j, y, hb, hj, hs⟩ := r1 (by simp)
    cases hs
    exact ⟨_, _, rfl, rfl, j, y, hb, hj, rfl⟩

/-- the first of the order that has not too much -/
def sI : List Int → Int → Int
  | [], a => a
  | x :: l, a => sI l (wr (a + x))
def sN : List Int → Int
  | [] => 0
  | x :: l => x + sN l
theorem sI_eq : ∀ (l : List Int) (a : Int), (∀ x, x ∈ l → 0 ≤ x ∧ x ≤ 1000000) → 0 ≤ a → a + 1000000 * (l.length : Int) ≤ 100000000000 → sI l a = a + sN l ∧ 0 ≤ sN l ∧ sN l ≤ 1000000 * (l.length : Int)
  | [], a, _, _, _ => by simp [sI, sN]
  | x :: l, a, h, h0, h1 => by
    have hx := h x (by simp)
    simp only [List.length_cons] at h1 ⊢
    have := sI_eq l (a + x) (fun y hy => h y (List.mem_cons_of_mem _ hy)) (by omega) (by omega)
    show sI l (wr (a + x)) = a + (x + sN l) ∧ 0 ≤ x + sN l ∧ x + sN l ≤ _
    rw [wr_id (n := a + x) (by omega)]
    omega
theorem sumP_go (fin : Int → Option (Bs × Int)) : ∀ (l : List Int) (k : Nat) (a : Int), forL (fun (k : Nat) (x : Int) (s : Int) => upstream_Bounded_L1 k x s) fin k l a = fin (sI l a)
  | [], k, a => rfl
  | x :: l, k, a => sumP_go fin l (k + 1) (wr (a + x))
theorem sumR_go (loads : List S_api_Load) (hl : loads.length ≤ 1000) (fin : Int × Int → Option Bs) : ∀ (l : List S_api_Instance) (k : Nat) (w a : Int), forL (fun (k : Nat) (x : S_api_Instance) (s : Int × Int) => gateref2_BoundedOf_L1 loads k x s.1 s.2) fin k l (w, a) = fin (wS l w, sI (ownL l loads) a)
  | [], k, w, a => rfl
  | x :: l, k, w, a => by
    have hst : gateref2_BoundedOf_L1 loads k x w a = some (.inl (wr (w + x.Weight), wr (a + ldF loads x.Key))) := by
      unfold gateref2_BoundedOf_L1
      rw [loadOf_eq loads _ (by omega)]; rfl
    show (gateref2_BoundedOf_L1 loads k x w a).bind _ = _
    rw [hst]
    exact sumR_go loads hl fin l (k + 1) _ _
theorem forL_map {α β σ ρ : Type} (f : α → β) {body : Nat → β → σ → Option (σ ⊕ ρ)} {fin : σ → Option ρ} : ∀ (l : List α) (k : Nat) (s : σ), forL body fin k (l.map f) s = forL (fun k x s => body k (f x) s) fin k l s
  | [], k, s => rfl
  | x :: l, k, s => by
    show (body k (f x) s).bind _ = (body k (f x) s).bind _
    cases body k (f x) s with
    | none => rfl
    | some q =>
      cases q with
      | inl t => exact forL_map f l (k + 1) t
      | inr r => rfl
theorem instAt_eq (xs : List S_api_Instance) (key : Bs) (h : xs.length ≤ 1000) : m_gateref2_InstanceAt xs key = some (fdx (fun x => decide (x.Key = key)) 0 xs) := by
  unfold m_gateref2_InstanceAt
  have e : m_slices_IndexFunc_L_api_Instance_api_Instance_ xs (fun (a0 : S_api_Instance) => m_gateref2_InstanceAt_1 a0 key) = some (fdx (fun x => decide (x.Key = key)) 0 xs) :=
    gIdx_eq xs (p := fun (a0 : S_api_Instance) => m_gateref2_InstanceAt_1 a0 key) (fun x => decide (x.Key = key)) (by omega) fun x _ => rfl
  rw [e]; rfl
theorem bounded_two (xs : List S_api_Instance) (hg : InsG xs) (hn : xs ≠ []) (h12 : xs.length ≤ 12) (l : List S_api_Load) (hl : l.length ≤ 1000) (hr : ∀ x, x ∈ l → 0 ≤ x.Many ∧ x.Many ≤ 1000000) (key : Bs) (hk : key.length ≤ 1000) (f : Int) :
    ∃ d, forL (fun (k : Nat) (x : Int) (s : Int) => upstream_Bounded_L1 k x s) (fun (s : Int) => upstream_Bounded_E1 xs key f (ownL xs l, 0) s) 0 (ownL xs l) 0 = some (d, 0) ∧ m_gateref2_BoundedOf xs l key f = some d := by
  obtain ⟨r, r1, r2, r3⟩ := ordered_two xs key hg h12 hk
  have hlen := r1.length_eq
  have hol : (ownL xs l).length = xs.length := by unfold ownL; rw [List.length_map]
  have hor : ∀ x, x ∈ ownL xs l → 0 ≤ x ∧ x ≤ 1000000 := fun x hx => by
    obtain ⟨y, _, rfl⟩ := List.mem_map.1 hx
    exact ldF_rng l y.Key hr
  have hs0 := sI_eq (ownL xs l) 0 hor (by omega) (by omega)
  have hs1 := sI_eq (ownL xs l) 1 hor (by omega) (by omega)
  have hws := wS_rng xs 0 (fun x hx => hg.wgt x hx) (by omega) (by omega)
  obtain ⟨j, y, q1, q2, q3⟩ := least_two xs l hn (by omega) hl
  have hyx := List.mem_of_getElem? q2
  rw [sumP_go]
  unfold m_gateref2_BoundedOf
  rw [if_pos (by omega), sumR_go l hl (fun (s : Int × Int) => gateref2_BoundedOf_E1 xs l key f s.1 s.2)]
  unfold upstream_Bounded_E1 gateref2_BoundedOf_E1
  rw [r2, r3]
  simp only [Option.bind_some]
  rw [if_pos (by omega), if_pos (by simp; omega), forL_map]
  have hsum : wr (sI (ownL xs l) 0 + 1) = sI (ownL xs l) 1 := by rw [wr_id (by omega)]; omega
  have key := forL_rel (body := fun (k : Nat) (x : S_api_Instance) (s : Unit) => upstream_Bounded_L2 xs f (ownL xs l, 0) (sI (ownL xs l) 0) k x) (body' := fun (k : Nat) (x : S_api_Instance) (s : Unit) => gateref2_BoundedOf_L2 xs l f (wS xs 0) (sI (ownL xs l) 1) k x.Key)
    (fin := fun (s : Unit) => upstream_Bounded_E2 xs (ownL xs l, 0)) (fin' := fun (s : Unit) => gateref2_BoundedOf_E2 xs l) (fun _ _ _ => True) (fun v w => v = (w, 0)) r 0 () () trivial ?_ ?_
  · obtain ⟨v, w, s1, s2, rfl⟩ := key
    exact ⟨w, s1, s2⟩
  · intro k x s s' _ hx _
    have hxr := List.mem_of_getElem? hx
    have hxx := r1.mem_iff.1 hxr
    have hhas : hasK xs x.Key = true := by
      unfold hasK
      exact List.any_eq_true.2 ⟨x, hxx, by simp⟩
    obtain ⟨pl, p1, p2, p3⟩ := place_ok xs x.Key (by omega) hg.srt
    obtain ⟨p0, z, p4, p5⟩ := p3 (by rw [p2, hhas])
    have hat : at? (ownL xs l) pl.1 = some (ldF l x.Key) := by
      unfold at? ownL
      rw [if_pos p0, List.getElem?_map, p4]
      show some (ldF l z.Key) = _
      rw [p5]
    obtain ⟨_, z2, t1, _, t3⟩ := fdx_at (fun y : S_api_Instance => decide (y.Key = x.Key)) xs hhas
    have hz2 : z2 = x := by
      have hm : z2 ∈ xs := by
        obtain ⟨_, h6⟩ := at_some t1
        exact List.mem_of_getElem? h6
      exact srt_mem hg.srt hm hxx (by simpa using t3)
    subst hz2
    have hM : upstream_Bounded_L2 xs f (ownL xs l, 0) (sI (ownL xs l) 0) k z2 = if (wr ((wr ((wr (ldF l z2.Key + 1)) * 1000)) * (wS xs 0))) ≤ (wr ((wr (f * z2.Weight)) * (sI (ownL xs l) 1))) then some (.inr (z2.Key, 0)) else some (.inl ()) := by
      unfold upstream_Bounded_L2
      rw [p1]
      simp only [Option.bind_some]
      rw [hat, weights_eq xs (by omega)]
      simp only [Option.bind_some]
      rw [hsum]
      by_cases h : (wr ((wr ((wr (ldF l z2.Key + 1)) * 1000)) * (wS xs 0))) ≤ (wr ((wr (f * z2.Weight)) * (sI (ownL xs l) 1)))
      · rw [if_pos (by simpa using h), if_pos h]
      · rw [if_neg (by simpa using h), if_neg h]
    have hR : gateref2_BoundedOf_L2 xs l f (wS xs 0) (sI (ownL xs l) 1) k z2.Key = if (wr ((wr ((wr (ldF l z2.Key + 1)) * 1000)) * (wS xs 0))) ≤ (wr ((wr (f * z2.Weight)) * (sI (ownL xs l) 1))) then some (.inr z2.Key) else some (.inl ()) := by
      unfold gateref2_BoundedOf_L2
      rw [loadOf_eq l _ (by omega), instAt_eq xs _ (by omega)]
      simp only [Option.bind_some]
      rw [t1]
      simp only [Option.bind_some]
      by_cases h : (wr ((wr ((wr (ldF l z2.Key + 1)) * 1000)) * (wS xs 0))) ≤ (wr ((wr (f * z2.Weight)) * (sI (ownL xs l) 1)))
      · rw [if_pos (by simpa using h), if_pos h]
      · rw [if_neg (by simpa using h), if_neg h]
    by_cases h : (wr ((wr ((wr (ldF l z2.Key + 1)) * 1000)) * (wS xs 0))) ≤ (wr ((wr (f * z2.Weight)) * (sI (ownL xs l) 1)))
    · rw [if_pos h] at hM hR
      exact .inr ⟨_, _, hM, hR, rfl⟩
    · rw [if_neg h] at hM hR
      exact .inl ⟨_, _, hM, hR, trivial⟩
  · intro s s' _
    refine ⟨(y.Key, 0), y.Key, ?_, ?_, rfl⟩
    · show upstream_Bounded_E2 xs (ownL xs l, 0) = _
      unfold upstream_Bounded_E2
      rw [q1]
      simp only [Option.bind_some]
      rw [at_nat, q2]; rfl
    · show gateref2_BoundedOf_E2 xs l = _
      unfold gateref2_BoundedOf_E2
      rw [q3]; rfl
/-- errors -/
def erF : List Int → Int
  | [] => 0
  | x :: l => if x ≠ 0 then x else erF l
theorem erF_go : ∀ (l : List Int) (k : Nat), forL (fun (k : Nat) (x : Int) (s : Unit) => gatelaw2_errs_L1 k x) (fun (s : Unit) => gatelaw2_errs_E1) k l () = some (erF l)
  | [], k => rfl
  | x :: l, k => by
    show (gatelaw2_errs_L1 k x).bind _ = some (if x ≠ 0 then x else erF l)
    unfold gatelaw2_errs_L1
    by_cases h : x ≠ 0
    · rw [if_pos (by simpa using h), if_pos h]; rfl
    · rw [if_neg (by simpa using h), if_neg h]
      exact erF_go l (k + 1)
theorem errs_eq (l : List Int) (h : l.length ≤ 1000) : m_gatelaw2_errs l = some (erF l) := by
  unfold m_gatelaw2_errs
  rw [if_pos (by omega), erF_go]
theorem when_eq (b : Bool) (e : Int) : m_gatelaw2_when b e = some (if b = true then e else 0) := by
  unfold m_gatelaw2_when
  cases b <;> rfl
def kfF (key : Bs) : Int := if (decide (key = []) || decide (40 < (key.length : Int))) = true then 5 else 0
theorem keyFault_eq (key : Bs) : m_upstream_keyFault key = some (kfF key) := by
  unfold m_upstream_keyFault kfF
  cases (decide (key = []) || decide (40 < (key.length : Int))) <;> rfl
theorem orderKey_eq (key : Bs) : m_gateref2_OrderKey key = some (kfF key) := by
  unfold m_gateref2_OrderKey kfF
  rw [in_eq]
  simp only [Option.bind_some, Bool.not_not]
  have : outP (key.length : Int) 1 40 = (decide (key = []) || decide (40 < (key.length : Int))) := by
    unfold outP
    have : decide ((key.length : Int) < 1) = decide (key = []) := by
      cases key with
      | nil => rfl
      | cons a b => simp; omega
    rw [this]
  rw [this]
  cases (decide (key = []) || decide (40 < (key.length : Int))) <;> rfl
theorem eqS_self (l : List Bs) (h : l.length ≤ 1000000000) : m_slices_Equal_L_string_string_ l l = some true :=
  gEql_self (fun x7 x10 : Bs => decide (x7 ≠ x10)) (fun x => by simp) l h
/-- what the four functions answer -/
theorem round_ok (xs : List S_api_Instance) (n : Int) (hg : InsG xs) (hc : m_upstream_CheckInstances xs = some 0) : ∃ a, m_upstream_Round xs n = some (a, erF [if outP n 0 2000 = true then 1 else 0, if xs = [] then 8 else 0]) ∧ a.length ≤ 2000 ∧
    (erF [if outP n 0 2000 = true then 1 else 0, if xs = [] then 8 else 0] = 0 → m_gateref2_RoundOf xs n = some a) ∧ (erF [if outP n 0 2000 = true then 1 else 0, if xs = [] then 8 else 0] ≠ 0 → a = []) := by
  have hlen := hg.len
  unfold m_upstream_Round
  rw [hc]
  simp only [Option.bind_some]
  rw [if_neg (by simp), out_eq]
  simp only [Option.bind_some]
  cases ho : outP n 0 2000
  · by_cases hx : xs = []
    · rw [if_neg (by simp), if_pos (by simp [hx]), if_neg (by simp), if_pos hx]
      exact ⟨[], rfl, by simp, fun h => by simp [erF] at h, fun _ => rfl⟩
    · have hn : 0 ≤ n ∧ n ≤ 2000 := by
        unfold outP at ho
        simp only [Bool.or_eq_false_iff, decide_eq_false_iff_not] at ho
        omega
      obtain ⟨m, rfl⟩ := Int.eq_ofNat_of_zero_le hn.1
      obtain ⟨a, a1, a2, a3⟩ := round_two xs m hg hx (by omega)
      rw [if_neg (by simp), if_neg (by simpa using hx), if_pos (by omega), weights_eq xs (by omega)]
      simp only [Option.bind_some]
      rw [if_pos (by omega), Int.toNat_natCast, a1, if_neg (by simp), if_neg hx]
      exact ⟨a, rfl, a3, fun _ => a2, fun h => absurd rfl h⟩
  · rw [if_pos rfl, if_pos rfl]
    exact ⟨[], rfl, by simp, fun h => by simp [erF] at h, fun _ => rfl⟩
theorem orderE_go : ∀ (l : List S_api_Instance) (k : Nat) (q : List Bs), q.length + l.length ≤ 1000000 → forL (fun (k : Nat) (x : S_api_Instance) (s : (List Bs)) => upstream_Order_L1 k x s) (fun (s : (List Bs)) => upstream_Order_E1 s) k l q = some (q ++ l.map (fun x => x.Key), 0)
  | [], k, q, _ => by
    show some (q, (0 : Int)) = _
    simp
  | x :: l, k, q, h => by
    simp only [List.length_cons] at h
    have hst : upstream_Order_L1 k x q = some (.inl (q ++ [x.Key])) := by
      unfold upstream_Order_L1
      rw [if_pos (by omega)]
    show (upstream_Order_L1 k x q).bind _ = _
    rw [hst]
    refine Eq.trans (orderE_go l (k + 1) (q ++ [x.Key]) (by simp; omega)) ?_
    simp
theorem order_ok (xs : List S_api_Instance) (key : Bs) (hg : InsG xs) (h12 : xs.length ≤ 12) (hk : key.length ≤ 1000) (hc : m_upstream_CheckInstances xs = some 0) : ∃ b, m_upstream_Order xs key = some (b, kfF key) ∧ b.length ≤ 2000 ∧
    (kfF key = 0 → m_gateref2_OrderOf xs key = some b) ∧ (kfF key ≠ 0 → b = []) := by
  obtain ⟨r, r1, r2, r3⟩ := ordered_two xs key hg h12 hk
  have hl := r1.length_eq
  unfold m_upstream_Order
  rw [hc]
  simp only [Option.bind_some]
  rw [if_neg (by simp), keyFault_eq]
  simp only [Option.bind_some]
  by_cases h : kfF key = 0
  · rw [if_neg (by simpa using h), r2]
    simp only [Option.bind_some]
    rw [if_pos (by omega), orderE_go r 0 [] (by simp; omega), List.nil_append, h]
    exact ⟨_, rfl, by simp; omega, fun _ => r3, fun h => absurd rfl h⟩
  · rw [if_pos (by simpa using h)]
    exact ⟨[], rfl, by simp, fun h1 => absurd h1 h, fun _ => rfl⟩
theorem least_ok (xs : List S_api_Instance) (l : List S_api_Load) (hg : InsG xs) (hl : l.length ≤ 1000) (hc : m_upstream_CheckInstances xs = some 0) : ∃ c, m_upstream_Least xs l = some (c, erF [lfF xs l, if xs = [] then 8 else 0]) ∧
    (erF [lfF xs l, if xs = [] then 8 else 0] = 0 → m_gateref2_LeastLoad xs l = some c) ∧ (erF [lfF xs l, if xs = [] then 8 else 0] ≠ 0 → c = []) := by
  have hlen := hg.len
  unfold m_upstream_Least
  rw [loadsP_eq xs hg hc l hl]
  simp only [Option.bind_some]
  by_cases hf : lfF xs l = 0
  · rw [if_pos hf, hf]
    simp only
    rw [if_neg (by simp)]
    by_cases hx : xs = []
    · rw [if_pos (by simp [hx]), if_pos hx]
      exact ⟨[], rfl, fun h => by simp [erF] at h, fun _ => rfl⟩
    · obtain ⟨j, y, q1, q2, q3⟩ := least_two xs l hx (by omega) hl
      rw [if_neg (by simpa using hx), q1, if_neg hx]
      simp only [Option.bind_some]
      rw [at_nat, q2]
      exact ⟨_, rfl, fun _ => q3, fun h => absurd rfl h⟩
  · rw [if_neg hf]
    simp only
    rw [if_pos (by simpa using hf)]
    have e : erF [lfF xs l, if xs = [] then 8 else 0] = lfF xs l := if_pos hf
    rw [e]
    exact ⟨[], rfl, fun h => absurd h hf, fun _ => rfl⟩
theorem bounded_ok (xs : List S_api_Instance) (l : List S_api_Load) (key : Bs) (f : Int) (hg : InsG xs) (h12 : xs.length ≤ 12) (hl : l.length ≤ 1000) (hk : key.length ≤ 1000) (hc : m_upstream_CheckInstances xs = some 0) :
    ∃ d, m_upstream_Bounded xs l key f = some (d, erF [lfF xs l, if outP f 1000 1000000 = true then 1 else 0, kfF key, if xs = [] then 8 else 0]) ∧
      (erF [lfF xs l, if outP f 1000 1000000 = true then 1 else 0, kfF key, if xs = [] then 8 else 0] = 0 → m_gateref2_BoundedOf xs l key f = some d) ∧ (erF [lfF xs l, if outP f 1000 1000000 = true then 1 else 0, kfF key, if xs = [] then 8 else 0] ≠ 0 → d = []) := by
  have hlen := hg.len
  unfold m_upstream_Bounded
  rw [loadsP_eq xs hg hc l hl]
  simp only [Option.bind_some]
  by_cases hf : lfF xs l = 0
  · rw [if_pos hf]
    have hr : ∀ x, x ∈ l → 0 ≤ x.Many ∧ x.Many ≤ 1000000 := by
      have h2 := hf
      unfold lfF at h2
      split at h2
      · omega
      · exact lfR_rng xs l [] h2
    rw [hf]
    simp only
    rw [if_neg (by simp), out_eq]
    simp only [Option.bind_some]
    cases outP f 1000 1000000
    · rw [if_neg (by simp), keyFault_eq]
      simp only [Option.bind_some]
      by_cases hkf : kfF key = 0
      · rw [if_neg (by simpa using hkf), hkf]
        by_cases hx : xs = []
        · rw [if_pos (by simp [hx]), if_pos hx]
          exact ⟨[], rfl, fun h => by simp [erF] at h, fun _ => rfl⟩
        · obtain ⟨d, d1, d2⟩ := bounded_two xs hg hx h12 l hl hr key hk f
          rw [if_neg (by simpa using hx), if_pos (by unfold ownL; rw [List.length_map]; omega), d1, if_neg hx]
          exact ⟨d, rfl, fun _ => d2, fun h => absurd rfl h⟩
      · rw [if_pos (by simpa using hkf)]
        have e : erF [0, if false = true then 1 else 0, kfF key, if xs = [] then 8 else 0] = kfF key := by
          show (if kfF key ≠ 0 then kfF key else _) = _
          rw [if_pos hkf]
        rw [e]
        exact ⟨[], rfl, fun h => absurd h hkf, fun _ => rfl⟩
    · rw [if_pos rfl]
      exact ⟨[], rfl, fun h => by simp [erF] at h, fun _ => rfl⟩
  · rw [if_neg hf]
    simp only
    rw [if_pos (by simpa using hf)]
    have e : erF [lfF xs l, if outP f 1000 1000000 = true then 1 else 0, kfF key, if xs = [] then 8 else 0] = lfF xs l := if_pos hf
    rw [e]
    exact ⟨[], rfl, fun h => absurd h hf, fun _ => rfl⟩
theorem lawJ4 (a b : List Bs) (c d : Bs) (one two three four : Int) (h1 : one ≠ 0 → a = []) (h2 : two ≠ 0 → b = []) : gatelaw2_InstancesPicked_J4 (a, one) (b, two) (c, three) (d, four) one two c d = some true := by
  unfold gatelaw2_InstancesPicked_J4 gatelaw2_InstancesPicked_J5
  rw [if_pos (by simp), if_pos (by simp), balanced_eq]
  simp only [Option.bind_some]
  by_cases ho : one = 0
  · rw [if_pos (by simpa using ho)]
    by_cases ht : two = 0
    · rw [if_pos (by simpa using ht)]
    · rw [if_neg (by simpa using ht), if_pos (by simp [h2 ht])]
  · rw [if_neg (by simpa using ho), if_pos (by simp [h1 ho])]
    by_cases ht : two = 0
    · rw [if_pos (by simpa using ht)]
    · rw [if_neg (by simpa using ht), if_pos (by simp [h2 ht])]
theorem lawJ1 (r2 : (List S_api_Instance) × S_gatemake_Stream) (r4 : Int × S_gatemake_Stream) (r6 : Bs × S_gatemake_Stream) (r8 : Int × S_gatemake_Stream) (r10 : (List S_api_Load) × S_gatemake_Stream) (a b : List Bs) (c d : Bs) (one two three four : Int)
    (ha : a.length ≤ 2000) (hb : b.length ≤ 2000) (a1 : one = 0 → m_gateref2_RoundOf r2.1 r4.1 = some a) (a2 : one ≠ 0 → a = []) (b1 : two = 0 → m_gateref2_OrderOf r2.1 r6.1 = some b) (b2 : two ≠ 0 → b = [])
    (c1 : three = 0 → m_gateref2_LeastLoad r2.1 r10.1 = some c) (c2 : three ≠ 0 → c = []) (d1 : four = 0 → m_gateref2_BoundedOf r2.1 r10.1 r6.1 r8.1 = some d) (d2 : four ≠ 0 → d = []) :
    gatelaw2_InstancesPicked_J1 r2 r4 r6 r8 r10 (a, one) (b, two) (c, three) (d, four) one two three four = some true := by
  have h3 : gatelaw2_InstancesPicked_J3 r2 r6 r8 r10 (a, one) (b, two) (c, three) (d, four) one two four c = some true := by
    unfold gatelaw2_InstancesPicked_J3
    by_cases h : four = 0
    · rw [if_pos (by simpa using h), d1 h]
      exact lawJ4 a b c d one two three four a2 b2
    · rw [if_neg (by simpa using h)]
      have := d2 h
      subst this
      exact lawJ4 a b c [] one two three four a2 b2
  have h2 : gatelaw2_InstancesPicked_J2 r2 r6 r8 r10 (a, one) (b, two) (c, three) (d, four) one two three four false = some true := by
    unfold gatelaw2_InstancesPicked_J2
    rw [if_neg (by simp)]
    by_cases h : three = 0
    · rw [if_pos (by simpa using h), c1 h]
      exact h3
    · rw [if_neg (by simpa using h)]
      have := c2 h
      subst this
      exact h3
  unfold gatelaw2_InstancesPicked_J1
  rw [if_neg (by simp)]
  by_cases ho : one = 0
  · rw [if_pos (by simpa using ho), a1 ho]
    simp only [Option.bind_some, eqS_self a (by omega)]
    rw [if_neg (by simp)]
    by_cases ht : two = 0
    · rw [if_pos (by simpa using ht), b1 ht]
      simp only [Option.bind_some, eqS_self b (by omega)]
      exact h2
    · rw [if_neg (by simpa using ht)]
      exact h2
  · rw [if_neg (by simpa using ho)]
    by_cases ht : two = 0
    · rw [if_pos (by simpa using ht), b1 ht]
      simp only [Option.bind_some, eqS_self b (by omega)]
      exact h2
    · rw [if_neg (by simpa using ht)]
      exact h2

/-- what is drawn -/
theorem hashKey_ok {k : Int} {s : S_gatemake_Stream} (h : SB k s) (hk : k ≤ 1000000) : Ok (m_gatemake_Stream_HashKey s) fun r => r.1.length ≤ 1000 ∧ SB (k + 1) r.2 := by
  have hr : m_strings_Repeat [107] 41 = some (List.replicate 41 107) := by decide +kernel
  unfold m_gatemake_Stream_HashKey
  rw [hr]
  simp only [Option.bind_some]
  refine ok_bind (some_ok h (by omega) _ ⟨by simp, by simp⟩) fun r hr => ok_some ⟨?_, hr.2⟩
  have h1 : ∀ x : Bs, x ∈ ([[107, 49], [107, 50], [107, 51], [117, 115, 101, 114, 45, 55], [65, 32, 98], [0], [], List.replicate 41 107] : List Bs) → x.length ≤ 1000 := by decide
  exact h1 _ hr.1
theorem loads_ok {k : Int} {s : S_gatemake_Stream} (h : SB k s) (hk : k ≤ 1000000) (xs : List S_api_Instance) (hx : xs.length ≤ 4) : Ok (m_gatemake_Stream_Loads s xs) fun r => r.1.length ≤ 1000 := by
  unfold m_gatemake_Stream_Loads
  refine ok_g (by omega) ?_
  refine ok_forL (fun (j : Nat) (q : (List Int) × Int × (List S_api_Load)) => SB (k + 2 * (j : Int)) ⟨q.1, q.2.1⟩ ∧ q.2.2.length ≤ j) xs 0 _ ⟨by simpa [SB] using h, by simp⟩ ?_ ?_
  · rintro j x ⟨c3, c4, l5⟩ _ hj ⟨h1, h2⟩
    simp only at h1 h2
    have hjl := lt_some hj
    show Ok (gatemake_Stream_Loads_L1 j x c3 c4 l5) _
    unfold gatemake_Stream_Loads_L1 gatemake_Stream_Loads_J3
    refine ok_bind (flip_ok h1 (by omega) 3 (by omega)) fun r hr => ok_if (fun _ => ?_) (fun _ => ok_some ⟨hr.mono (by omega), by simp only; omega⟩)
    exact ok_bind (pick_ok hr (by omega) _ ⟨by simp, by simp⟩) fun q hq => ok_g (by omega) (ok_some ⟨hq.2.mono (by omega), by simp; omega⟩)
  · rintro ⟨c3, c4, l5⟩ ⟨h1, h2⟩
    simp only [Nat.zero_add] at h1 h2
    show Ok (gatemake_Stream_Loads_E1 c3 c4 l5) _
    unfold gatemake_Stream_Loads_E1 gatemake_Stream_Loads_J2
    refine ok_bind (flip_ok h1 (by omega) 15 (by omega)) fun r hr => ok_if (fun _ => ?_) (fun _ => ok_some (by simp only; omega))
    exact ok_bind (some_ok hr (by omega) _ ⟨by simp, by simp⟩) fun q hq => ok_bind (odd_ok hq.2 (by omega) 0 1000000 (by omega)) fun q2 hq2 => ok_g (by omega) (ok_some (by simp; omega))
theorem errs_a (e w v : Int) (h : e = 0) : erF [e, w, v] = erF [w, v] := by rw [h]; rfl
theorem instancesPicked_plain (L : List Int) : m_gatelaw2_InstancesPicked L = some true := by
  refine ok_eq ?_
  unfold m_gatelaw2_InstancesPicked
  refine ok_bind (ins_ok (k := 0) ⟨by simp, by simp⟩ (by omega)) fun r2 h2 => ok_bind (pick_ok h2.2 (by omega) _ ⟨by simp, by simp⟩) fun r4 h4 => ok_bind (hashKey_ok h4.2 (by omega)) fun r6 h6 => ok_bind (pick_ok h6.2 (by omega) _ ⟨by simp, by simp⟩) fun r8 h8 => ok_bind (loads_ok h8.2 (by omega) r2.1 h2.1.2) fun r10 h10 => ?_
  obtain ⟨⟨hB, h4l⟩, _⟩ := h2
  have hc := chkI_eq r2.1 hB
  have hf := ifault_eq r2.1 hB
  have hkl := h6.1
  by_cases he : ciF r2.1 = 0
  · have hg := insG_of he
    rw [he] at hc hf
    obtain ⟨a, p1, p2, p3, p4⟩ := round_ok r2.1 r4.1 hg hc
    obtain ⟨b, q1, q2, q3, q4⟩ := order_ok r2.1 r6.1 hg (by omega) hkl hc
    obtain ⟨c, u1, u2, u3⟩ := least_ok r2.1 r10.1 hg h10 hc
    obtain ⟨d, v1, v2, v3⟩ := bounded_ok r2.1 r10.1 r6.1 r8.1 hg (by omega) h10 hkl hc
    rw [p1, q1, u1, v1, hf, loadsFault_eq r2.1 r10.1 (by omega)]
    simp only [Option.bind_some, when_eq, orderKey_eq]
    rw [errs_eq _ (by simp), errs_eq _ (by simp), errs_eq _ (by simp), errs_eq _ (by simp)]
    simp only [Option.bind_some]
    rw [if_pos (show decide True = true from rfl)]
    have w0 : (if decide ((r2.1.length : Int) = 0) = true then (8 : Int) else 0) = if r2.1 = [] then 8 else 0 := by
      by_cases h : r2.1 = []
      · rw [if_pos (by simp [h]), if_pos h]
      · rw [if_neg (by simpa using h), if_neg h]
    rw [w0]
    have e1 : erF [0, if (decide (r4.1 < 0) || decide (2000 < r4.1)) = true then 1 else 0, if r2.1 = [] then 8 else 0] = erF [if outP r4.1 0 2000 = true then 1 else 0, if r2.1 = [] then 8 else 0] := rfl
    have e2 : erF [0, kfF r6.1] = kfF r6.1 := by
      show (if kfF r6.1 ≠ 0 then kfF r6.1 else 0) = _
      by_cases h : kfF r6.1 = 0
      · rw [if_neg (by simp [h]), h]
      · rw [if_pos h]
    rw [e1, e2]
    exact ok_of (lawJ1 r2 r4 r6 r8 r10 a b c d _ _ _ _ p2 q2 p3 p4 q3 q4 u2 u3 v2 v3) rfl
  · have p1 : m_upstream_Round r2.1 r4.1 = some ([], ciF r2.1) := by
      unfold m_upstream_Round
      rw [hc]
      simp only [Option.bind_some]
      rw [if_pos (by simpa using he)]
    have q1 : m_upstream_Order r2.1 r6.1 = some ([], ciF r2.1) := by
      unfold m_upstream_Order
      rw [hc]
      simp only [Option.bind_some]
      rw [if_pos (by simpa using he)]
    have l1 : m_upstream_loadsOf r2.1 r10.1 = some ([], ciF r2.1) := by
      unfold m_upstream_loadsOf
      rw [hc]
      simp only [Option.bind_some]
      rw [if_pos (by simpa using he)]
    have u1 : m_upstream_Least r2.1 r10.1 = some ([], ciF r2.1) := by
      unfold m_upstream_Least
      rw [l1]
      simp only [Option.bind_some]
      rw [if_pos (by simpa using he)]
    have v1 : m_upstream_Bounded r2.1 r10.1 r6.1 r8.1 = some ([], ciF r2.1) := by
      unfold m_upstream_Bounded
      rw [l1]
      simp only [Option.bind_some]
      rw [if_pos (by simpa using he)]
    rw [p1, q1, u1, v1, hf]
    simp only [Option.bind_some, when_eq, orderKey_eq]
    rw [errs_eq _ (by simp), errs_eq _ (by simp)]
    simp only [Option.bind_some]
    rw [if_neg (by simpa using he)]
    have e1 : ∀ l, erF (ciF r2.1 :: l) = ciF r2.1 := fun l => if_pos he
    rw [e1, e1]
    exact ok_of (lawJ1 r2 r4 r6 r8 r10 [] [] [] [] (ciF r2.1) (ciF r2.1) (ciF r2.1) (ciF r2.1) (by simp) (by simp) (fun h => absurd h he) (fun _ => rfl) (fun h => absurd h he) (fun _ => rfl) (fun h => absurd h he) (fun _ => rfl) (fun h => absurd h he) (fun _ => rfl)) rfl
end Go.Proofs.YtmlbmkfbleicaaaGreat
