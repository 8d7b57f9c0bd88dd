/- Plain: queries are written alike; the law QueriesRead is true for every list of numbers. -/
import Derived.Test.YtmhghppkbppbjaaGreatDoorYqd
namespace Go.Proofs.YtmhghppkbppbjaaGreatDoor
set_option linter.unusedVariables false
set_option maxRecDepth 20000
/-- a byte of a word of a query -/
noncomputable def frQ (c : UInt8) : Bool := decide (m_message_isFree (c.toNat : Int) = some true)
noncomputable def pcQ (c : UInt8) : Bs := (m_message_percent (c.toNat : Int)).getD []
noncomputable def qcQ (c : UInt8) : Bs := if c.toNat = 32 then [43] else if frQ c then [c] else pcQ c
theorem free_at (c : UInt8) : m_message_isFree (c.toNat : Int) = some (frQ c) := by
  have := u8_all (fun c => decide (m_message_isFree (c.toNat : Int) = some (frQ c))) (by decide +kernel) c
  exact of_decide_eq_true this
theorem perc_at (c : UInt8) : m_message_percent (c.toNat : Int) = some (pcQ c) ∧ (pcQ c).length = 3 := by
  have := u8_all (fun c => decide (m_message_percent (c.toNat : Int) = some (pcQ c) ∧ (pcQ c).length = 3)) (by decide +kernel) c
  exact of_decide_eq_true this
theorem coded_at (c : UInt8) : m_gateref2_coded (c.toNat : Int) = some (pcQ c) := by
  have := u8_all (fun c => decide (m_gateref2_coded (c.toNat : Int) = some (pcQ c))) (by decide +kernel) c
  exact of_decide_eq_true this
theorem plain_at (c : UInt8) : (decide (0 ≤ Lib.indexByte [97, 98, 99, 100, 101, 102, 103, 104, 105, 106, 107, 108, 109, 110, 111, 112, 113, 114, 115, 116, 117, 118, 119, 120, 121, 122, 65, 66, 67, 68, 69, 70, 71, 72, 73, 74, 75, 76, 77, 78, 79, 80, 81, 82, 83, 84, 85, 86, 87, 88, 89, 90, 48, 49, 50, 51, 52, 53, 54, 55, 56, 57, 45, 46, 95, 126] c)) = frQ c := by
  have := u8_all (fun c => (decide (0 ≤ Lib.indexByte [97, 98, 99, 100, 101, 102, 103, 104, 105, 106, 107, 108, 109, 110, 111, 112, 113, 114, 115, 116, 117, 118, 119, 120, 121, 122, 65, 66, 67, 68, 69, 70, 71, 72, 73, 74, 75, 76, 77, 78, 79, 80, 81, 82, 83, 84, 85, 86, 87, 88, 89, 90, 48, 49, 50, 51, 52, 53, 54, 55, 56, 57, 45, 46, 95, 126] c)) == frQ c) (by decide +kernel) c
  simpa using this
noncomputable def qwQ (s : Bs) : Bs := s.flatMap qcQ
theorem qc_len (c : UInt8) : (qcQ c).length ≤ 3 := by
  unfold qcQ
  split
  · simp
  · split
    · simp
    · rw [(perc_at c).2]; exact Nat.le_refl _
theorem qw_len (s : Bs) : (qwQ s).length ≤ 3 * s.length := by
  induction s with
  | nil => simp [qwQ]
  | cons c s ih =>
    unfold qwQ at ih ⊢
    have := qc_len c
    rw [List.flatMap_cons, List.length_append, List.length_cons]
    omega
theorem wordP (k : Nat) (c : UInt8) (x : Bs) (hl : x.length + 3 ≤ 1000000000) : message_queryWord_L1 k c (numsB x) = some (.inl (numsB (x ++ qcQ c))) := by
  have hn : (numsB x).length + 1 ≤ 1000000000 := by rw [nums_len]; omega
  unfold message_queryWord_L1 message_queryWord_J2 qcQ
  by_cases h0 : c.toNat = 32
  · have : decide ((c.toNat : Int) = 32) = true := by simp; omega
    rw [if_pos this, if_pos h0, wbyte _ _ hn]
    simp only [Option.bind_some, nums_app]; rfl
  · have : ¬ decide ((c.toNat : Int) = 32) = true := by simp; omega
    rw [if_neg this, if_neg h0, free_at]
    simp only [Option.bind_some]
    cases frQ c
    · simp only [Bool.false_eq_true, if_false]
      rw [(perc_at c).1]
      simp only [Option.bind_some]
      unfold m_strings_Builder_WriteString
      rw [if_pos (by rw [nums_len, (perc_at c).2]; omega)]
      simp only [Option.bind_some, nums_app]
    · simp only [if_true]
      rw [wbyte _ _ hn]
      simp only [Option.bind_some, nums_app]; rfl
theorem wordR (k : Nat) (c : UInt8) (x : Bs) (hl : x.length + 3 ≤ 1000000000) : gateref2_queryPart_L1 k c (numsB x) = some (.inl (numsB (x ++ qcQ c))) := by
  have hn : (numsB x).length + 1 ≤ 1000000000 := by rw [nums_len]; omega
  unfold gateref2_queryPart_L1 gateref2_queryPart_J2 qcQ
  by_cases h0 : c.toNat = 32
  · have : decide ((c.toNat : Int) = 32) = true := by simp; omega
    rw [if_pos this, if_pos h0, if_pos hn]
    rw [nums_app]; rfl
  · have : ¬ decide ((c.toNat : Int) = 32) = true := by simp; omega
    rw [if_neg this, if_neg h0]
    unfold m_strings_IndexByte
    simp only [Option.bind_some]
    have e1 : ((c.toNat : Int)).toNat.toUInt8 = c := by simp
    rw [e1, plain_at]
    cases frQ c
    · simp only [Bool.false_eq_true, if_false]
      rw [coded_at]
      simp only [Option.bind_some]
      rw [if_pos (by rw [nums_len, (perc_at c).2]; omega), nums_app]
    · simp only [if_true]
      rw [if_pos hn, nums_app]; rfl
theorem wordLP : ∀ (s : Bs) (k : Nat) (x : Bs), x.length + 3 * s.length ≤ 1000000000 → forL (fun (k : Nat) (x : UInt8) (s : (List Int)) => message_queryWord_L1 k x s) (fun (s : (List Int)) => message_queryWord_E1 s) k s (numsB x) = some (x ++ qwQ s)
  | [], k, x, h => by
    show message_queryWord_E1 (numsB x) = _
    unfold message_queryWord_E1
    rw [if_pos (byR_nums x), strN_nums']; simp [qwQ]
  | c :: s, k, x, h => by
    simp only [List.length_cons] at h
    have := qc_len c
    show (message_queryWord_L1 k c (numsB x)).bind _ = _
    rw [wordP k c x (by omega)]
    simp only [Option.bind_some, after]
    rw [wordLP s (k + 1) _ (by simp; omega)]
    simp [qwQ]
theorem wordLR : ∀ (s : Bs) (k : Nat) (x : Bs), x.length + 3 * s.length ≤ 1000000000 → forL (fun (k : Nat) (x : UInt8) (s : (List Int)) => gateref2_queryPart_L1 k x s) (fun (s : (List Int)) => gateref2_queryPart_E1 s) k s (numsB x) = some (x ++ qwQ s)
  | [], k, x, h => by
    show gateref2_queryPart_E1 (numsB x) = _
    unfold gateref2_queryPart_E1
    rw [strN_nums']; simp [qwQ]
  | c :: s, k, x, h => by
    simp only [List.length_cons] at h
    have := qc_len c
    show (gateref2_queryPart_L1 k c (numsB x)).bind _ = _
    rw [wordR k c x (by omega)]
    simp only [Option.bind_some, after]
    rw [wordLR s (k + 1) _ (by simp; omega)]
    simp [qwQ]
theorem word_eq (s : Bs) (h : s.length ≤ 100000) : m_message_queryWord s = some (qwQ s) ∧ m_gateref2_queryPart s = some (qwQ s) := by
  constructor
  · unfold m_message_queryWord
    rw [if_pos (by omega)]
    exact wordLP s 0 [] (by simp only [List.length_nil]; omega)
  · unfold m_gateref2_queryPart
    rw [if_pos (by omega)]
    exact wordLR s 0 [] (by simp only [List.length_nil]; omega)
theorem join_le (B : Nat) (sep : Bs) : ∀ l : List Bs, (∀ x, x ∈ l → x.length ≤ B) → (Lib.join l sep).length ≤ l.length * (B + sep.length)
  | [], _ => by simp [Lib.join_nil]
  | x :: r, h => by
    rw [Lib.join_cons, List.length_append]
    have h1 := h x (by simp)
    have h2 : (Lib.joinTail sep r).length ≤ r.length * (B + sep.length) := by
      have : ∀ r : List Bs, (∀ x, x ∈ r → x.length ≤ B) → (Lib.joinTail sep r).length ≤ r.length * (B + sep.length) := by
        intro r
        induction r with
        | nil => intro _; simp [Lib.joinTail]
        | cons y r ih =>
          intro hr
          have h3 := hr y (by simp)
          have h4 := ih fun z hz => hr z (by simp [hz])
          unfold Lib.joinTail at h4 ⊢
          simp only [List.map_cons, List.flatten_cons, List.length_append, List.length_cons, Nat.succ_mul]
          omega
      exact this r fun y hy => h y (by simp [hy])
    simp only [List.length_cons, Nat.succ_mul]
    omega
theorem text_eq (l : List S_api_Pair) (hl : l.length ≤ 1000) (hp : ∀ p, p ∈ l → p.Name.length ≤ 1000 ∧ p.Value.length ≤ 1000) : Ok (m_message_QueryText l) fun r => m_gateref2_QueryFrom l = some r := by
  have hsame : m_gateref2_QueryFrom l = m_message_QueryText l := by
    unfold m_message_QueryText m_gateref2_QueryFrom
    split
    · rfl
    · split
      · refine forL_congr (fun _ => rfl) l 0 [] fun j x s _ hj => ?_
        obtain ⟨h1, h2⟩ := hp x (List.mem_of_getElem? hj)
        have h3 := word_eq x.Name (by omega)
        have h4 := word_eq x.Value (by omega)
        unfold message_QueryText_L1 gateref2_QueryFrom_L1
        rw [h3.1, h3.2, h4.1, h4.2]
        have hc : ((x.Name == []) && ((x.Value == []) && true)) = ((decide (x.Name = [])) && (decide (x.Value = []))) := by
          rw [Bool.and_true]
          rcases x with ⟨a, b⟩
          cases a <;> cases b <;> rfl
        rw [hc]
      · rfl
  rw [hsame]
  have : Ok (m_message_QueryText l) fun _ => True := by
    unfold m_message_QueryText
    refine ok_if (fun _ => ok_some trivial) (fun _ => ok_g (by omega) ?_)
    refine ok_forL (fun j (s : List Bs) => s.length ≤ j ∧ ∀ y, y ∈ s → y.length ≤ 10000) l 0 [] ⟨by simp, by simp⟩ (fun j x s _ hj hI => ?_) (fun s hI => ?_)
    · obtain ⟨h1, h2⟩ := hp x (List.mem_of_getElem? hj)
      have hjl := lt_some hj
      have q1 := qw_len x.Name
      have q2 := qw_len x.Value
      unfold message_QueryText_L1
      rw [(word_eq x.Name (by omega)).1, (word_eq x.Value (by omega)).1]
      refine ok_if (fun _ => ok_some trivial) (fun _ => ?_)
      simp only [Option.bind_some]
      refine ok_g (by simp; omega) (ok_g (by simp; omega) (ok_g (by omega) (ok_some ?_)))
      refine ⟨by simp; omega, fun y hy => ?_⟩
      rcases List.mem_append.1 hy with h | h
      · exact hI.2 y h
      · have : y = (qwQ x.Name ++ [61]) ++ qwQ x.Value := by simpa using h
        rw [this]; simp; omega
    · have hj := join_le 10000 [38] s hI.2
      have hs : s.length ≤ 1000 := by omega
      have hm : s.length * (10000 + ([38] : Bs).length) ≤ 1000 * 10001 := Nat.mul_le_mul hs (by simp)
      unfold message_QueryText_E1
      have hJ : m_strings_Join s [38] = some (Lib.join s [38]) := by
        unfold m_strings_Join
        rw [if_pos ⟨by omega, by omega⟩]
      rw [hJ]
      simp only [Option.bind_some]
      exact ok_if (fun _ => ok_some trivial) (fun _ => ok_some trivial)
  obtain ⟨r, h1, _⟩ := this
  exact ⟨r, h1, h1⟩
theorem words_ok {k : Int} {s : S_gatemake_Stream} (h : SB k s) (hk : k ≤ 1000000) (m : Nat) (hm : m ≤ 1000) (sep : Bs) (hsep : sep.length ≤ 10) (l : List Bs) (hl : l ≠ [] ∧ l.length ≤ 1000) (hB : ∀ x, x ∈ l → x.length ≤ 20) :
    Ok (m_gatemake_Stream_Words s (m : Int) sep l) fun r => r.1.length ≤ 30000 ∧ SB (k + m) r.2 := by
  unfold m_gatemake_Stream_Words
  refine ok_g (by omega) ?_
  rw [Int.toNat_natCast]
  refine ok_rng (fun j (q : List Int × Int × List Bs) => j ≤ m ∧ SB (k + (j : Int)) (S_gatemake_Stream.mk q.1 q.2.1) ∧ q.2.2.length ≤ j ∧ ∀ x, x ∈ q.2.2 → x.length ≤ 20) m 0 _ ⟨by omega, h.mono (by omega), by simp, by simp⟩ ?_ ?_
  · rintro j ⟨c5, c6, l7⟩ _ hj ⟨h0, h1, h2, h3⟩
    simp only at h1 h2 h3 ⊢
    unfold gatemake_Stream_Words_L1
    refine ok_bind (some_ok h1 (by omega) l hl) fun r hr => ok_g (by omega) (ok_some ?_)
    refine ⟨by omega, hr.2.mono (by omega), by simp; omega, fun x hx => ?_⟩
    rcases List.mem_append.1 hx with h | h
    · exact h3 x h
    · have : x = r.1 := by simpa using h
      rw [this]; exact hB _ hr.1
  · rintro ⟨c5, c6, l7⟩ ⟨h0, h1, h2, h3⟩
    simp only at h1 h2 h3 ⊢
    have hj := join_le 20 sep l7 h3
    have hmm : l7.length * (20 + sep.length) ≤ 1000 * 30 := Nat.mul_le_mul (by omega) (by omega)
    unfold gatemake_Stream_Words_E1
    have hJ : m_strings_Join l7 sep = some (Lib.join l7 sep) := by
      unfold m_strings_Join
      rw [if_pos ⟨by omega, by omega⟩]
    rw [hJ]
    exact ok_some ⟨by simp only; omega, h1.mono (by omega)⟩
theorem queryName_ok {k : Int} {s : S_gatemake_Stream} (h : SB k s) (hk : k ≤ 1000) : Ok (m_gatemake_Stream_QueryName s) fun r => r.1.length ≤ 30000 ∧ SB (k + 200) r.2 := by
  unfold m_gatemake_Stream_QueryName gatemake_Stream_QueryName_J1
  refine ok_bind (range_ok h (by omega) 0 4 (by omega)) fun r hr => ?_
  obtain ⟨m, hm⟩ : ∃ m : Nat, r.1 = (m : Int) := ⟨r.1.toNat, by omega⟩
  rw [hm]
  refine ok_bind (words_ok hr.2 (by omega) m (by omega) [38] (by simp) _ ⟨by simp, by simp⟩ (by decide)) fun r2 h2 => ok_bind (flip_ok h2.2 (by omega) 12 (by omega)) fun r3 h3 => ok_if (fun _ => ?_) (fun _ => ok_some ⟨h2.1, ?_⟩)
  · refine ok_bind (words_ok h3 (by omega) 101 (by omega) [38] (by simp) [[120]] ⟨by simp, by simp⟩ (by decide)) fun r4 h4 => ok_bind (some_ok h4.2 (by omega) _ ⟨by simp, by simp⟩) fun r5 h5 => ok_some ⟨?_, ?_⟩
    · have hm := h5.1
      simp only [List.mem_cons, List.not_mem_nil, or_false] at hm
      rcases hm with e | e | e | e | e | e <;> rw [e] <;> first | decide | exact h4.1
    · exact h5.2.mono (by omega)
  · exact h3.mono (by omega)
theorem spoken_eq : m_gatelaw2_spoken = some true := by
  have h1 : m_message_PathFault [47, 97, 47, 46, 46, 47, 98] = some 0 := by decide +kernel
  have h2 : m_message_normalUnits [47, 97, 47, 46, 46, 47, 98] = some ([47, 97, 47, 46, 46, 47, 98], true) := by
    unfold m_message_normalUnits
    exact iter_some.2 ⟨9, by decide +kernel⟩
  have h3 : m_strings_Split [97, 47, 46, 46, 47, 98] [47] = some [[97], [46, 46], [98]] := by
    unfold m_strings_Split
    rw [if_pos (by decide), splitL_one]
    decide +kernel
  have h4 : sub? ([47, 97, 47, 46, 46, 47, 98] : Bs) 1 7 = some [97, 47, 46, 46, 47, 98] := by decide +kernel
  have h5 : forL (fun (k : Nat) (x : Bs) (s : (List Bs)) => message_NormalPath_L1 [[97], [46, 46], [98]] k x s) (fun (s : (List Bs)) => message_NormalPath_E1 s) 0 [[97], [46, 46], [98]] [] = some ([47, 98], 0) := by decide +kernel
  have h6 : m_message_NormalPath [47, 97, 47, 46, 46, 47, 98] = some ([47, 98], 0) := by
    unfold m_message_NormalPath
    rw [h1]
    simp only [Option.bind_some, ne_eq, not_true_eq_false, decide_false, Bool.false_eq_true, if_false, h2, Bool.not_true]
    show (sub? ([47, 97, 47, 46, 46, 47, 98] : Bs) 1 7).bind _ = _
    rw [h4]
    simp only [Option.bind_some]
    rw [h3]
    simp only [Option.bind_some]
    rw [if_pos (by decide)]
    exact h5
  unfold m_gatelaw2_spoken
  rw [h6]; rfl
theorem eqPr_self (l : List S_api_Pair) (h : l.length ≤ 1000000000) : m_slices_Equal_L_api_Pair_api_Pair_ l l = some true :=
  gEql_self (fun x7 x10 : S_api_Pair => !((x7.Name == x10.Name) && ((x7.Value == x10.Value) && true))) (fun x => by simp) l h
theorem queriesRead_plain (L : List Int) : m_gatelaw2_QueriesRead L = some true := by
  refine ok_eq ?_
  have hJ2 : ∀ (q : Bs × S_gatemake_Stream) (v : List S_api_Pair), q.1.length ≤ 100000 → v.length ≤ 1000 → (∀ p, p ∈ v → p.Name.length ≤ 1000 ∧ p.Value.length ≤ 1000) → Ok (gatelaw2_QueriesRead_J2 q v) (· = true) := by
    intro q v hq hv hp
    unfold gatelaw2_QueriesRead_J2 gatelaw2_QueriesRead_J3
    obtain ⟨a, h1, h2, h3⟩ := query_eq q.1 hq
    obtain ⟨b, h4, h5⟩ := text_eq v hv hp
    rw [h1, h2, h4, h5]
    simp only [Option.bind_some]
    rw [eqPr_self a.1 (by omega), spoken_eq]
    simp only [Option.bind_some, if_true, decide_true]
    exact ⟨true, rfl, rfl⟩
  unfold m_gatelaw2_QueriesRead
  refine ok_bind (queryName_ok (k := 0) ⟨by simp, by simp⟩ (by omega)) fun r hr => ok_bind (range_ok hr.2 (by omega) 0 4 (by omega)) fun r2 h2 => ok_g (by omega) ?_
  refine ok_rng (fun j (q : List Int × Int × List S_api_Pair) => SB (201 + 2 * (j : Int)) (S_gatemake_Stream.mk q.1 q.2.1) ∧ q.2.2.length ≤ j ∧ ∀ p, p ∈ q.2.2 → p.Name.length ≤ 1000 ∧ p.Value.length ≤ 1000) _ _ _ ⟨h2.2.mono (by omega), by simp, by simp⟩ ?_ ?_
  · rintro j ⟨c6, c7, l8⟩ _ hj ⟨h3, h4, h5⟩
    simp only at h3 h4 h5 ⊢
    unfold gatelaw2_QueriesRead_L1
    refine ok_bind (some_ok h3 (by omega) _ ⟨by simp, by simp⟩) fun r3 h6 => ok_bind (some_ok h6.2 (by omega) _ ⟨by simp, by simp⟩) fun r4 h7 => ok_g (by omega) (ok_some ?_)
    refine ⟨h7.2.mono (by omega), by simp; omega, fun p hp => ?_⟩
    rcases List.mem_append.1 hp with h | h
    · exact h5 p h
    · have : p = S_api_Pair.mk r3.1 r4.1 := by simpa using h
      rw [this]
      have m1 := h6.1
      have m2 := h7.1
      simp only [List.mem_cons, List.not_mem_nil, or_false] at m1 m2
      constructor
      · rcases m1 with e | e | e | e | e <;> simp only [e] <;> decide
      · rcases m2 with e | e | e | e | e <;> simp only [e] <;> decide
  · rintro ⟨c6, c7, l8⟩ ⟨h3, h4, h5⟩
    simp only at h3 h4 h5 ⊢
    unfold gatelaw2_QueriesRead_E1
    refine ok_bind (flip_ok h3 (by omega) 12 (by omega)) fun r3 h6 => ok_if (fun _ => ok_g (by omega) ?_) (fun _ => hJ2 _ _ (by omega) (by omega) h5)
    refine hJ2 _ _ (by omega) (by simp; omega) fun p hp => ?_
    rcases List.mem_append.1 hp with h | h
    · exact h5 p h
    · have : p = S_api_Pair.mk [] [] := by simpa using h
      rw [this]; simp
end Go.Proofs.YtmhghppkbppbjaaGreatDoor
