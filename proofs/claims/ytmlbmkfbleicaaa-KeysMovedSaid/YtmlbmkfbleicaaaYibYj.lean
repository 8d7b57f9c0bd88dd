/- Plain: instances in order, loads; the law InstancesPicked is true for every list of numbers. -/
import Derived.Test.YtmlbmkfbleicaaaIsYj
import Derived.Test.YtmlbmkfbleicaaaSrYj
namespace Go.Proofs.Ytmlbmkfbleicaaa
set_option linter.unusedVariables false
set_option maxRecDepth 20000
/-- instances that are right -/
structure InsG (xs : List S_api_Instance) : Prop where
  srt : Srt xs
  len : xs.length ≤ 50
  key : ∀ x, x ∈ xs → keyP x.Key = true
  wgt : ∀ x, x ∈ xs → 1 ≤ x.Weight ∧ x.Weight ≤ 100
theorem key_len {s : Bs} (h : keyP s = true) : s.length ≤ 40 ∧ s ≠ [] := by
  unfold keyP at h
  simp only [Bool.and_eq_true, decide_eq_true_eq] at h
  exact ⟨by omega, h.2.1⟩
theorem ciR_good : ∀ (l : List S_api_Instance) (last : Bs), ciR l last = 0 → ∀ x, x ∈ l → keyP x.Key = true ∧ 1 ≤ x.Weight ∧ x.Weight ≤ 100
  | [], last, _ => fun x h => by cases h
  | x :: l, last, h => by
    simp only [ciR] at h
    by_cases hc : ci1 x (leB x.Key last) ≠ 0
    · rw [if_pos hc] at h; exact absurd h hc
    · rw [if_neg hc] at h
      have hc' : ci1 x (leB x.Key last) = 0 := by omega
      have hx : keyP x.Key = true ∧ 1 ≤ x.Weight ∧ x.Weight ≤ 100 := by
        unfold ci1 ci3 at hc'
        cases hk : keyP x.Key
        · rw [hk] at hc'; simp at hc'
        · cases hq : leB x.Key last
          · rw [hk, hq] at hc'
            cases ho : outP x.Weight 1 100
            · unfold outP at ho
              simp only [Bool.or_eq_false_iff, decide_eq_false_iff_not] at ho
              exact ⟨rfl, by omega⟩
            · rw [ho] at hc'; simp at hc'
          · rw [hk, hq] at hc'; simp at hc'
      intro y hy
      rcases List.mem_cons.1 hy with rfl | hy
      · exact hx
      · exact ciR_good l x.Key h y hy
theorem insG_of {xs : List S_api_Instance} (h : ciF xs = 0) : InsG xs := by
  have hs := ciF_srt h
  unfold ciF at h
  split at h
  · omega
  · exact ⟨hs, by omega, fun x hx => (ciR_good xs [] h x hx).1, fun x hx => (ciR_good xs [] h x hx).2⟩
theorem srt_mem {xs : List S_api_Instance} (h : Srt xs) {x y : S_api_Instance} (hx : x ∈ xs) (hy : y ∈ xs) (hk : x.Key = y.Key) : x = y := by
  obtain ⟨i, hi, rfl⟩ := List.mem_iff_getElem.1 hx
  obtain ⟨j, hj, rfl⟩ := List.mem_iff_getElem.1 hy
  rcases Nat.lt_trichotomy i j with hij | rfl | hij
  · have := srt_at h (List.getElem?_eq_getElem hi) (List.getElem?_eq_getElem hj) hij
    rw [hk, (cmp_zero _ _).2 rfl] at this; omega
  · rfl
  · have := srt_at h (List.getElem?_eq_getElem hj) (List.getElem?_eq_getElem hi) hij
    rw [hk, (cmp_zero _ _).2 rfl] at this; omega
/-- the sum of bytes -/
def hst (h : Int) (c : UInt8) : Int := IntKind.wrap .u64 ((xor_ .u64 h (IntKind.wrap .u64 (c.toNat : Int))) * 1099511628211)
def hsh (l : Bs) : Int := l.foldl hst 14695981039346656037
theorem hash_msg : ∀ (l : Bs) (k : Nat) (h : Int), forL (fun (k : Nat) (x : UInt8) (s : Int) => upstream_Hash_L1 k x s) (fun (s : Int) => upstream_Hash_E1 s) k l h = upstream_Hash_E1 (l.foldl hst h)
  | [], k, h => rfl
  | x :: l, k, h => hash_msg l (k + 1) (hst h x)
theorem hash_ref : ∀ (l : Bs) (k : Nat) (h : Int), forL (fun (k : Nat) (x : UInt8) (s : Int) => gateref2_hashed_L1 k x s) (fun (s : Int) => gateref2_hashed_E1 s) k l h = gateref2_hashed_E1 (l.foldl hst h)
  | [], k, h => rfl
  | x :: l, k, h => hash_ref l (k + 1) (hst h x)
def mixH (h : Int) : Int := xor_ .u64 h (shr_ .u64 h 32)
theorem hashM_eq (s : Bs) (h : s.length ≤ 1000000000) : m_upstream_Hash s = some (mixH (hsh s)) := by
  unfold m_upstream_Hash
  rw [if_pos h, hash_msg]; rfl
theorem hashR_eq (a b : Bs) (h1 : a.length ≤ 1000) (h2 : b.length ≤ 1000) : m_gateref2_hashed [a, b] = some (hsh ((a ++ [0]) ++ b)) := by
  have e : Lib.join [a, b] [0] = (a ++ [0]) ++ b := by
    rw [Lib.join_cons]; simp [Lib.joinTail]
  unfold m_gateref2_hashed m_strings_Join
  rw [e, if_pos ⟨by simp, by simp; omega⟩]
  simp only [Option.bind_some]
  rw [if_pos (by simp; omega), hash_ref]; rfl
/-- points -/
def ptH (key : Bs) (x : S_api_Instance) : Int := wr ((IntKind.wrap .i64 (Int.tmod (mixH (hsh ((key ++ [0]) ++ x.Key))) 1000003)) * x.Weight)
theorem tmod_rng (n : Int) : -1000002 ≤ Int.tmod n 1000003 ∧ Int.tmod n 1000003 ≤ 1000002 := by
  have h1 := Int.tmod_lt_of_pos n (show (0 : Int) < 1000003 by decide)
  have h2 : -1000003 < Int.tmod n 1000003 := by
    have := Int.tmod_lt_of_pos (-n) (show (0 : Int) < 1000003 by decide)
    rw [Int.neg_tmod] at this; omega
  omega
theorem ptH_rng (key : Bs) (x : S_api_Instance) (h : 1 ≤ x.Weight ∧ x.Weight ≤ 100) : -200000000 ≤ ptH key x ∧ ptH key x ≤ 200000000 := by
  have ht := tmod_rng (mixH (hsh ((key ++ [0]) ++ x.Key)))
  unfold ptH
  generalize Int.tmod (mixH (hsh ((key ++ [0]) ++ x.Key))) 1000003 = t at *
  have e1 : IntKind.wrap .i64 t = t := wr_id (by omega)
  rw [e1]
  have h1 : t * x.Weight ≤ 1000002 * 100 := by
    rcases Int.le_total 0 t with h0 | h0
    · exact Int.mul_le_mul ht.2 h.2 (by omega) (by omega)
    · have : t * x.Weight ≤ 0 := Int.mul_nonpos_of_nonpos_of_nonneg h0 (by omega)
      omega
  have h2 : -(1000002 * 100) ≤ t * x.Weight := by
    rcases Int.le_total 0 t with h0 | h0
    · have : 0 ≤ t * x.Weight := Int.mul_nonneg h0 (by omega)
      omega
    · have h3 : (-t) * x.Weight ≤ 1000002 * 100 := Int.mul_le_mul (by omega) h.2 (by omega) (by omega)
      have h4 : (-t) * x.Weight = -(t * x.Weight) := Int.neg_mul t x.Weight
      omega
  rw [wr_id (by omega)]
  omega
def ptM (key : Bs) : List S_api_Instance → (Bs → Int) → (Bs → Int)
  | [], m => m
  | x :: l, m => ptM key l (upm m x.Key (ptH key x))
theorem ptM_rng (key : Bs) : ∀ (l : List S_api_Instance) (m : Bs → Int), (∀ x, x ∈ l → 1 ≤ x.Weight ∧ x.Weight ≤ 100) → (∀ k, -200000000 ≤ m k ∧ m k ≤ 200000000) → ∀ k, -200000000 ≤ ptM key l m k ∧ ptM key l m k ≤ 200000000
  | [], m, _, hm => hm
  | x :: l, m, h, hm => ptM_rng key l _ (fun y hy => h y (List.mem_cons_of_mem _ hy)) fun k => by
    unfold upm
    split
    · exact ptH_rng key x (h x (by simp))
    · exact hm k
theorem ordM_go (key : Bs) (xs : List S_api_Instance) (hk : key.length ≤ 1000) : ∀ (l : List S_api_Instance) (k : Nat) (m : Bs → Int) (n : Nat), (∀ x, x ∈ l → x.Key.length ≤ 1000 ∧ 1 ≤ x.Weight ∧ x.Weight ≤ 100) → n + l.length ≤ 1000 →
    forL (fun (k : Nat) (x : S_api_Instance) (s : (Bs → Int) × Nat) => upstream_ordered_L1 key k x s.1 s.2) (fun (s : (Bs → Int) × Nat) => upstream_ordered_E1 xs s.1 s.2) k l (m, n) = upstream_ordered_E1 xs (ptM key l m) (n + l.length)
  | [], k, m, n, _, _ => rfl
  | x :: l, k, m, n, h, hn => by
    simp only [List.length_cons] at hn
    obtain ⟨h1, h2⟩ := h x (by simp)
    have hr := ptH_rng key x h2
    have hst : upstream_ordered_L1 key k x m n = some (.inl (upm m x.Key (ptH key x), n + 1)) := by
      unfold upstream_ordered_L1
      rw [if_pos (by simp; omega), if_pos (by simp; omega), hashM_eq _ (by simp; omega)]
      simp only [Option.bind_some]
      rw [if_pos ⟨by omega, by omega, by unfold ptH at hr; omega, by unfold ptH at hr; omega⟩]; rfl
    show (upstream_ordered_L1 key k x m n).bind _ = _
    rw [hst]
    refine Eq.trans (ordM_go key xs hk l (k + 1) _ (n + 1) (fun y hy => h y (List.mem_cons_of_mem _ hy)) (by omega)) ?_
    show upstream_ordered_E1 xs (ptM key l _) (n + 1 + l.length) = upstream_ordered_E1 xs (ptM key l _) (n + (l.length + 1))
    rw [show n + 1 + l.length = n + (l.length + 1) by omega]
theorem ordR_go (key : Bs) (hk : key.length ≤ 1000) : ∀ (l : List S_api_Instance) (k : Nat) (m : Bs → Int) (n : Nat) (q : List Bs), (∀ x, x ∈ l → x.Key.length ≤ 1000 ∧ 1 ≤ x.Weight ∧ x.Weight ≤ 100) → n + l.length ≤ 1000 → q.length + l.length ≤ 1000 →
    forL (fun (k : Nat) (x : S_api_Instance) (s : (Bs → Int) × Nat × (List Bs)) => gateref2_OrderOf_L1 key k x s.1 s.2.1 s.2.2) (fun (s : (Bs → Int) × Nat × (List Bs)) => gateref2_OrderOf_E1 s.1 s.2.1 s.2.2) k l (m, n, q) = gateref2_OrderOf_E1 (ptM key l m) (n + l.length) (q ++ l.map fun x => x.Key)
  | [], k, m, n, q, _, _, _ => by
    show gateref2_OrderOf_E1 m n q = gateref2_OrderOf_E1 m (n + 0) (q ++ [])
    rw [List.append_nil]; rfl
  | x :: l, k, m, n, q, h, hn, hq => by
    simp only [List.length_cons] at hn hq
    obtain ⟨h1, h2⟩ := h x (by simp)
    have hr := ptH_rng key x h2
    have hst : gateref2_OrderOf_L1 key k x m n q = some (.inl (upm m x.Key (ptH key x), n + 1, q ++ [x.Key])) := by
      unfold gateref2_OrderOf_L1
      rw [hashR_eq _ _ hk h1]
      simp only [Option.bind_some]
      rw [if_pos ⟨by omega, by omega, by unfold ptH mixH at hr; omega, by unfold ptH mixH at hr; omega⟩, if_pos (by omega)]; rfl
    show (gateref2_OrderOf_L1 key k x m n q).bind _ = _
    rw [hst]
    refine Eq.trans (ordR_go key hk l (k + 1) _ (n + 1) _ (fun y hy => h y (List.mem_cons_of_mem _ hy)) (by omega) (by simp; omega)) ?_
    rw [show n + 1 + l.length = n + (x :: l).length by simp only [List.length_cons]; omega]
    simp only [List.map_cons, List.append_assoc, List.singleton_append]; rfl
/-- the two sorts -/
theorem cmpInt_eq (x y : Int) : m_cmp_Compare_int_ x y = some (if x < y then -1 else if y < x then 1 else 0) := by
  unfold m_cmp_Compare_int_ m_cmp_isNaN_int_
  simp only [Option.bind_some]
  rw [if_neg (by simp), if_neg (by simp)]
  by_cases h1 : x < y
  · rw [if_pos (by simpa using h1), if_pos h1]
  · rw [if_neg (by simpa using h1), if_neg h1]
    by_cases h2 : y < x
    · rw [if_pos (by simpa using h2), if_pos h2]
    · rw [if_neg (by simpa using h2), if_neg h2]
theorem or_two (a b : Int) : m_cmp_Or_int_ [a, b] = some (if a ≠ 0 then a else b) := by
  unfold m_cmp_Or_int_
  rw [if_pos (by simp)]
  show (cmp_Or_int__L1 0 a).bind _ = _
  unfold cmp_Or_int__L1
  by_cases ha : a = 0
  · rw [if_neg (by simp [ha]), if_neg (by simp [ha])]
    show (cmp_Or_int__L1 1 b).bind _ = _
    unfold cmp_Or_int__L1
    by_cases hb : b = 0
    · rw [if_neg (by simp [hb]), hb]; rfl
    · rw [if_pos (by simp [hb])]; rfl
  · rw [if_pos (by simp [ha]), if_pos ha]; rfl
theorem sign_eq (n : Int) : m_gateref2_sign n = some (if n < 0 then -1 else if 0 < n then 1 else 0) := by
  unfold m_gateref2_sign
  by_cases h1 : n < 0
  · rw [if_pos (by simpa using h1), if_pos h1]
  · rw [if_neg (by simpa using h1), if_neg h1]
    by_cases h2 : 0 < n
    · rw [if_pos (by simpa using h2), if_pos h2]
    · rw [if_neg (by simpa using h2), if_neg h2]
theorem pair_good (m : Bs → Int) (n : Nat) (x y : S_api_Instance) (hm : ∀ k, -200000000 ≤ m k ∧ m k ≤ 200000000) (hx : x.Key.length ≤ 1000) (hy : y.Key.length ≤ 1000) (hc : cmpL y.Key x.Key < 0) :
    goodP (fun (a0 : S_api_Instance) (a1 : S_api_Instance) => m_upstream_ordered_1 a0 a1 (n, m)) (fun (a0 : Bs) (a1 : Bs) => m_gateref2_OrderOf_1 a0 a1 (n, m)) (fun x => x.Key) x y := by
  have h1 := hm x.Key
  have h2 := hm y.Key
  have hsw := cmp_swap y.Key x.Key
  have e1 : m_upstream_ordered_1 x y (n, m) = some (if (if m y.Key < m x.Key then (-1 : Int) else if m x.Key < m y.Key then 1 else 0) ≠ 0 then (if m y.Key < m x.Key then (-1 : Int) else if m x.Key < m y.Key then 1 else 0) else Lib.compareBytes x.Key y.Key) := by
    unfold m_upstream_ordered_1 m_strings_Compare
    rw [if_pos (by omega), if_pos (by omega), cmpInt_eq]
    simp only [Option.bind_some, or_two]
  have e2 : m_gateref2_OrderOf_1 x.Key y.Key (n, m) = some (if m y.Key - m x.Key < 0 then (-1 : Int) else if 0 < m y.Key - m x.Key then 1 else 0) := by
    unfold m_gateref2_OrderOf_1
    rw [if_pos (by omega), if_pos (by omega), sign_eq]
    simp only [Option.bind_some]
    rw [wr_id (by omega)]
  refine ⟨_, _, e1, e2, ?_⟩
  have h5 : Lib.compareBytes x.Key y.Key = - cmpL y.Key x.Key := hsw
  have h6 : ¬ Lib.compareBytes x.Key y.Key < 0 := by omega
  by_cases h3 : m y.Key < m x.Key
  · have e : m y.Key - m x.Key < 0 := by omega
    simp [h3, e]
  · by_cases h4 : m x.Key < m y.Key
    · have e : ¬ m y.Key - m x.Key < 0 := by omega
      have e' : 0 < m y.Key - m x.Key := by omega
      simp only [if_neg h3, if_pos h4, if_neg e, if_pos e']
      simp
    · have e : ¬ m y.Key - m x.Key < 0 := by omega
      have e' : ¬ 0 < m y.Key - m x.Key := by omega
      simp only [if_neg h3, if_neg h4, if_neg e, if_neg e', ne_eq, not_true_eq_false, if_false]
      omega
theorem len_small (n : Nat) (h : n ≤ 12) : ∃ v, m_math_bits_Len (IntKind.wrap .u64 (n : Int)) = some v := by
  have h1 : ((List.range 13).all fun n => (m_math_bits_Len (IntKind.wrap .u64 (n : Int))).isSome) = true := by decide +kernel
  have h2 := List.all_eq_true.1 h1 n (by simp; omega)
  exact Option.isSome_iff_exists.1 h2
theorem ordered_two (xs : List S_api_Instance) (key : Bs) (hg : InsG xs) (hn : xs.length ≤ 12) (hk : key.length ≤ 1000) : ∃ r, r.Perm xs ∧ m_upstream_ordered xs key = some r ∧ m_gateref2_OrderOf xs key = some (r.map fun x => x.Key) := by
  have hb : ∀ x, x ∈ xs → x.Key.length ≤ 1000 ∧ 1 ≤ x.Weight ∧ x.Weight ≤ 100 := fun x hx => ⟨by have := (key_len (hg.key x hx)).1; omega, hg.wgt x hx⟩
  have hm := ptM_rng key xs (fun _ => 0) (fun x hx => hg.wgt x hx) (fun _ => by omega)
  obtain ⟨r, r1, r2, r3⟩ := gIns_two (p := fun (a0 : S_api_Instance) (a1 : S_api_Instance) => m_upstream_ordered_1 a0 a1 (0 + xs.length, ptM key xs fun _ => 0)) (q := fun (a0 : Bs) (a1 : Bs) => m_gateref2_OrderOf_1 a0 a1 (0 + xs.length, ptM key xs fun _ => 0)) (f := fun x : S_api_Instance => x.Key) xs (by omega)
    (hg.srt.imp_of_mem fun {y x} hy hx hc => pair_good _ _ x y hm (hb x hx).1 (hb y hy).1 hc)
  have hl := r1.length_eq
  obtain ⟨v, hv⟩ := len_small xs.length hn
  refine ⟨r, r1, ?_, ?_⟩
  · unfold m_upstream_ordered
    rw [if_pos (by omega), ordM_go key xs hk xs 0 _ 0 hb (by omega)]
    unfold upstream_ordered_E1 m_slices_Clone
    rw [if_pos (by omega)]
    simp only [Option.bind_some]
    unfold m_slices_SortFunc_L_api_Instance_api_Instance_
    rw [hv]
    simp only [Option.bind_some]
    have e : m_slices_pdqsortCmpFunc_api_Instance_ xs 0 (xs.length : Int) v (fun (a0 : S_api_Instance) (a1 : S_api_Instance) => m_upstream_ordered_1 a0 a1 (0 + xs.length, ptM key xs fun _ => 0)) = some r :=
      gPdq_eq xs r _ v hn r2 hl
    rw [e]
    simp only [Option.bind_some]
    rw [if_pos hl]
    simp only [Option.bind_some]
    rw [if_pos hl]
  · unfold m_gateref2_OrderOf
    rw [if_pos (by omega), ordR_go key hk xs 0 _ 0 [] hb (by omega) (by simp; omega)]
    unfold gateref2_OrderOf_E1
    rw [List.nil_append]
    unfold m_slices_SortStableFunc_L_string_string_
    rw [List.length_map]
    have hl2 : (r.map fun x => x.Key).length = (xs.map fun x => x.Key).length := by simp [hl]
    have e : m_slices_stableCmpFunc_string_ (xs.map fun x => x.Key) (xs.length : Int) (fun (a0 : Bs) (a1 : Bs) => m_gateref2_OrderOf_1 a0 a1 (0 + xs.length, ptM key xs fun _ => 0)) = some (r.map fun x => x.Key) := by
      have := gStab_eq (xs.map fun x => x.Key) (r.map fun x => x.Key) (fun (a0 : Bs) (a1 : Bs) => m_gateref2_OrderOf_1 a0 a1 (0 + xs.length, ptM key xs fun _ => 0)) (by simp; omega) (by rw [List.length_map]; exact r3) hl2
      rw [List.length_map] at this
      exact this
    rw [e]
    simp only [Option.bind_some]
    rw [if_pos (by simp [hl])]
    simp only [Option.bind_some]
    rw [if_pos (by simp [hl])]

/-- weights -/
def wS : List S_api_Instance → Int → Int
  | [], a => a
  | x :: l, a => wS l (wr (a + x.Weight))
theorem wS_rng : ∀ (l : List S_api_Instance) (a : Int), (∀ x, x ∈ l → 1 ≤ x.Weight ∧ x.Weight ≤ 100) → 0 ≤ a → a + 100 * (l.length : Int) ≤ 100000 → 0 ≤ wS l a ∧ wS l a ≤ a + 100 * (l.length : Int)
  | [], a, _, h0, h1 => ⟨h0, by simp [wS]⟩
  | x :: l, a, h, h0, h1 => by
    have hx := h x (by simp)
    simp only [List.length_cons] at h1 ⊢
    show 0 ≤ wS l (wr (a + x.Weight)) ∧ wS l (wr (a + x.Weight)) ≤ _
    rw [wr_id (n := a + x.Weight) (by omega)]
    have := wS_rng l (a + x.Weight) (fun y hy => h y (List.mem_cons_of_mem _ hy)) (by omega) (by omega)
    omega
theorem weights_go : ∀ (l : List S_api_Instance) (k : Nat) (a : Int), forL (fun (k : Nat) (x : S_api_Instance) (s : Int) => upstream_weights_L1 k x s) (fun (s : Int) => upstream_weights_E1 s) k l a = some (wS l a)
  | [], k, a => rfl
  | x :: l, k, a => weights_go l (k + 1) (wr (a + x.Weight))
theorem weights_eq (xs : List S_api_Instance) (h : xs.length ≤ 1000000000) : m_upstream_weights xs = some (wS xs 0) := by
  unfold m_upstream_weights
  rw [if_pos h, weights_go]
/-- turns of a round -/
def nm (S t : Int) (x : S_api_Instance) (c : Int) : Int := t * x.Weight - c * S
theorem nm_rng {t w c S : Int} (ht : 0 ≤ t ∧ t ≤ 3000) (hw : 1 ≤ w ∧ w ≤ 100) (hc : 0 ≤ c ∧ c ≤ 3000) (hS : 0 ≤ S ∧ S ≤ 5000) : (0 ≤ t * w ∧ t * w ≤ 3000 * 100) ∧ (0 ≤ c * S ∧ c * S ≤ 3000 * 5000) :=
  ⟨⟨Int.mul_nonneg ht.1 (by omega), Int.mul_le_mul ht.2 hw.2 (by omega) (by omega)⟩, Int.mul_nonneg hc.1 hS.1, Int.mul_le_mul hc.2 hS.2 hS.1 (by omega)⟩
theorem nm_up (S t : Int) (x : S_api_Instance) (c : Int) : nm S (t + 1) x c = nm S t x c + x.Weight := by
  unfold nm
  rw [Int.add_mul, Int.one_mul]; omega
theorem nm_more (S t : Int) (x : S_api_Instance) (c : Int) : nm S t x (c + 1) = nm S t x c - S := by
  unfold nm
  rw [Int.add_mul, Int.one_mul]; omega
def RT (xs : List S_api_Instance) (S : Int) (t : Nat) (l T : List Int) : Prop :=
  l.length = xs.length ∧ T.length = xs.length ∧ ∀ (i : Nat) x c, xs[i]? = some x → T[i]? = some c → (0 ≤ c ∧ c ≤ (t : Int)) ∧ l[i]? = some (nm S (t : Int) x c)
def RI (xs : List S_api_Instance) (S : Int) (t : Nat) (T : List Int) (k : Nat) (s : Int × List Int) (s' : Int × Int) : Prop :=
  s.1 = s'.1 ∧ s.2.length = xs.length ∧ (∀ (i : Nat) x c, xs[i]? = some x → T[i]? = some c → s.2[i]? = some (if i < k then nm S ((t : Int) + 1) x c else nm S (t : Int) x c)) ∧
  (k = 0 → s.1 = 0) ∧ (0 < k → ∃ (j : Nat) (x : S_api_Instance) (c : Int), s.1 = (j : Int) ∧ j < k ∧ xs[j]? = some x ∧ T[j]? = some c ∧ s'.2 = nm S ((t : Int) + 1) x c)
/-- the first of the order that has not too much -/
def sI : List Int → Int → Int
  | [], a => a
  | x :: l, a => sI l (wr (a + x))
def sN : List Int → Int
  | [] => 0
  | x :: l => x + sN l
theorem sI_eq : ∀ (l : List Int) (a : Int), (∀ x, x ∈ l → 0 ≤ x ∧ x ≤ 1000000) → 0 ≤ a → a + 1000000 * (l.length : Int) ≤ 100000000000 → sI l a = a + sN l ∧ 0 ≤ sN l ∧ sN l ≤ 1000000 * (l.length : Int)
  | [], a, _, _, _ => by simp [sI, sN]
  | x :: l, a, h, h0, h1 => by
    have hx := h x (by simp)
    simp only [List.length_cons] at h1 ⊢
    have := sI_eq l (a + x) (fun y hy => h y (List.mem_cons_of_mem _ hy)) (by omega) (by omega)
    show sI l (wr (a + x)) = a + (x + sN l) ∧ 0 ≤ x + sN l ∧ x + sN l ≤ _
    rw [wr_id (n := a + x) (by omega)]
    omega
theorem forL_map {α β σ ρ : Type} (f : α → β) {body : Nat → β → σ → Option (σ ⊕ ρ)} {fin : σ → Option ρ} : ∀ (l : List α) (k : Nat) (s : σ), forL body fin k (l.map f) s = forL (fun k x s => body k (f x) s) fin k l s
  | [], k, s => rfl
  | x :: l, k, s => by
    show (body k (f x) s).bind _ = (body k (f x) s).bind _
    cases body k (f x) s with
    | none => rfl
    | some q =>
      cases q with
      | inl t => exact forL_map f l (k + 1) t
      | inr r => rfl
/-- errors -/
def erF : List Int → Int
  | [] => 0
  | x :: l => if x ≠ 0 then x else erF l
theorem erF_go : ∀ (l : List Int) (k : Nat), forL (fun (k : Nat) (x : Int) (s : Unit) => gatelaw2_errs_L1 k x) (fun (s : Unit) => gatelaw2_errs_E1) k l () = some (erF l)
  | [], k => rfl
  | x :: l, k => by
    show (gatelaw2_errs_L1 k x).bind _ = some (if x ≠ 0 then x else erF l)
    unfold gatelaw2_errs_L1
    by_cases h : x ≠ 0
    · rw [if_pos (by simpa using h), if_pos h]; rfl
    · rw [if_neg (by simpa using h), if_neg h]
      exact erF_go l (k + 1)
theorem errs_eq (l : List Int) (h : l.length ≤ 1000) : m_gatelaw2_errs l = some (erF l) := by
  unfold m_gatelaw2_errs
  rw [if_pos (by omega), erF_go]
theorem when_eq (b : Bool) (e : Int) : m_gatelaw2_when b e = some (if b = true then e else 0) := by
  unfold m_gatelaw2_when
  cases b <;> rfl
def kfF (key : Bs) : Int := if (decide (key = []) || decide (40 < (key.length : Int))) = true then 5 else 0
theorem keyFault_eq (key : Bs) : m_upstream_keyFault key = some (kfF key) := by
  unfold m_upstream_keyFault kfF
  cases (decide (key = []) || decide (40 < (key.length : Int))) <;> rfl
theorem orderKey_eq (key : Bs) : m_gateref2_OrderKey key = some (kfF key) := by
  unfold m_gateref2_OrderKey kfF
  rw [in_eq]
  simp only [Option.bind_some, Bool.not_not]
  have : outP (key.length : Int) 1 40 = (decide (key = []) || decide (40 < (key.length : Int))) := by
    unfold outP
    have : decide ((key.length : Int) < 1) = decide (key = []) := by
      cases key with
      | nil => rfl
      | cons a b => simp; omega
    rw [this]
  rw [this]
  cases (decide (key = []) || decide (40 < (key.length : Int))) <;> rfl
theorem eqS_self (l : List Bs) (h : l.length ≤ 1000000000) : m_slices_Equal_L_string_string_ l l = some true :=
  gEql_self (fun x7 x10 : Bs => decide (x7 ≠ x10)) (fun x => by simp) l h
theorem errs_a (e w v : Int) (h : e = 0) : erF [e, w, v] = erF [w, v] := by rw [h]; rfl
end Go.Proofs.Ytmlbmkfbleicaaa
