/- Plain: the law KeysMoved is true for every list of numbers. -/
import Derived.Test.YtmlbmkfbleicaaaYibYj
namespace Go.Proofs.Ytmlbmkfbleicaaa
set_option linter.unusedVariables false
set_option maxRecDepth 20000
theorem chk2_go (fin : Unit → Option (List Bs × Int)) (a b : List S_api_Instance) (ea eb : Int) (ha : m_upstream_CheckInstances a = some ea) (hb : m_upstream_CheckInstances b = some eb) :
    rng (fun (k : Nat) (s : Unit) => upstream_Moved_L1 a b k) fin 2 0 () = if ea ≠ 0 then some ([], ea) else if eb ≠ 0 then some ([], eb) else fin () := by
  have h0 : upstream_Moved_L1 a b 0 = if ea ≠ 0 then some (.inr ([], ea)) else some (.inl ()) := by
    unfold upstream_Moved_L1
    simp only [List.getElem?_cons_zero, Option.bind_some]
    rw [ha]
    simp only [Option.bind_some]
    by_cases h : ea ≠ 0
    · rw [if_pos (by simpa using h), if_pos h]
    · rw [if_neg (by simpa using h), if_neg h]
  have h1 : upstream_Moved_L1 a b 1 = if eb ≠ 0 then some (.inr ([], eb)) else some (.inl ()) := by
    unfold upstream_Moved_L1
    simp only [List.getElem?_cons_zero, List.getElem?_cons_succ, Option.bind_some]
    rw [hb]
    simp only [Option.bind_some]
    by_cases h : eb ≠ 0
    · rw [if_pos (by simpa using h), if_pos h]
    · rw [if_neg (by simpa using h), if_neg h]
  show (upstream_Moved_L1 a b 0).bind _ = _
  rw [h0]
  by_cases h : ea ≠ 0
  · rw [if_pos h, if_pos h]; rfl
  · rw [if_neg h, if_neg h]
    show (upstream_Moved_L1 a b 1).bind _ = _
    rw [h1]
    by_cases h : eb ≠ 0
    · rw [if_pos h, if_pos h]; rfl
    · rw [if_neg h, if_neg h]; rfl
def kfL : List Bs → Int
  | [] => 0
  | k :: l => if kfF k ≠ 0 then kfF k else kfL l
theorem keys_go (fin : Unit → Option (List Bs × Int)) : ∀ (l : List Bs) (k : Nat), forL (fun (k : Nat) (x : Bs) (s : Unit) => upstream_Moved_L2 k x) fin k l () = if kfL l ≠ 0 then some ([], kfL l) else fin ()
  | [], k => rfl
  | x :: l, k => by
    have hst : upstream_Moved_L2 k x = if kfF x ≠ 0 then some (.inr ([], kfF x)) else some (.inl ()) := by
      unfold upstream_Moved_L2
      rw [keyFault_eq]
      simp only [Option.bind_some]
      by_cases h : kfF x ≠ 0
      · rw [if_pos (by simpa using h), if_pos h]
      · rw [if_neg (by simpa using h), if_neg h]
    show (upstream_Moved_L2 k x).bind _ = _
    rw [hst]
    by_cases h : kfF x ≠ 0
    · have e : kfL (x :: l) = kfF x := if_pos h
      rw [if_pos h, e, if_pos h]; rfl
    · have e : kfL (x :: l) = kfL l := if_neg h
      rw [if_neg h, e]
      exact keys_go fin l (k + 1)
theorem lawK_go (fin : Int → Option Bool) : ∀ (l : List Bs) (k : Nat) (v : Int), forL (fun (k : Nat) (x : Bs) (s : Int) => gatelaw2_KeysMoved_L3 k x s) fin k l v = fin (if v ≠ 0 then v else kfL l)
  | [], k, v => by
    show fin v = _
    by_cases h : v ≠ 0
    · rw [if_pos h]
    · rw [if_neg h]
      have : v = 0 := by omega
      rw [this]; rfl
  | x :: l, k, v => by
    have hst : gatelaw2_KeysMoved_L3 k x v = some (.inl (if v ≠ 0 then v else kfF x)) := by
      unfold gatelaw2_KeysMoved_L3
      rw [orderKey_eq]
      simp only [Option.bind_some]
      rw [errs_eq _ (by simp)]
      simp only [Option.bind_some]
      have : erF [v, kfF x] = if v ≠ 0 then v else kfF x := by
        show (if v ≠ 0 then v else if kfF x ≠ 0 then kfF x else 0) = _
        by_cases h : kfF x = 0
        · rw [if_neg (by simp [h] : ¬ kfF x ≠ 0), h]
        · rw [if_pos h]
      rw [this]
    show (gatelaw2_KeysMoved_L3 k x v).bind _ = _
    rw [hst]
    refine Eq.trans (lawK_go fin l (k + 1) _) ?_
    by_cases h : v ≠ 0
    · rw [if_pos h, if_pos h, if_pos h]
    · rw [if_neg h, if_neg h]
      show fin (if kfF x ≠ 0 then kfF x else kfL l) = fin (kfL (x :: l))
      rfl
theorem moved_go (a b : List S_api_Instance) (ga : InsG a) (gb : InsG b) (na : a ≠ []) (nb : b ≠ []) (la : a.length ≤ 12) (lb : b.length ≤ 12) : ∀ (l : List Bs) (k : Nat) (q : List Bs), (∀ x, x ∈ l → x.length ≤ 1000) → q.length + l.length ≤ 1000 →
    ∃ r, forL (fun (k : Nat) (x : Bs) (s : (List Bs)) => upstream_Moved_L3 a b k x s) (fun (s : (List Bs)) => upstream_Moved_E3 s) k l q = some (r, 0) ∧ forL (fun (k : Nat) (x : Bs) (s : (List Bs)) => gateref2_MovedOf_L1 a b k x s) (fun (s : (List Bs)) => gateref2_MovedOf_E1 s) k l q = some r ∧ r.length ≤ 1000
  | [], k, q, _, hq => ⟨q, rfl, rfl, by simpa using hq⟩
  | x :: l, k, q, h, hq => by
    simp only [List.length_cons] at hq
    have hx := h x (by simp)
    obtain ⟨r1, p1, p2, p3⟩ := ordered_two a x ga la hx
    obtain ⟨r2, q1, q2, q3⟩ := ordered_two b x gb lb hx
    obtain ⟨y1, t1, rfl⟩ : ∃ y t, r1 = y :: t := by
      cases r1 with
      | nil => exact absurd (List.nil_perm.1 p1) (fun h => na h)
      | cons y t => exact ⟨y, t, rfl⟩
    obtain ⟨y2, t2, rfl⟩ : ∃ y t, r2 = y :: t := by
      cases r2 with
      | nil => exact absurd (List.nil_perm.1 q1) (fun h => nb h)
      | cons y t => exact ⟨y, t, rfl⟩
    have hM : upstream_Moved_L3 a b k x q = some (.inl (if y1.Key ≠ y2.Key then q ++ [x] else q)) := by
      unfold upstream_Moved_L3 upstream_Moved_J4
      rw [p2, q2]
      simp only [Option.bind_some, List.getElem?_cons_zero]
      by_cases hk : y1.Key ≠ y2.Key
      · rw [if_pos (by simpa using hk), if_pos (by omega), if_pos hk]
      · rw [if_neg (by simpa using hk), if_neg hk]
    have hR : gateref2_MovedOf_L1 a b k x q = some (.inl (if y1.Key ≠ y2.Key then q ++ [x] else q)) := by
      unfold gateref2_MovedOf_L1 gateref2_MovedOf_J2
      rw [p3, q3]
      simp only [Option.bind_some, List.map_cons, List.getElem?_cons_zero]
      by_cases hk : y1.Key ≠ y2.Key
      · rw [if_pos (by simpa using hk), if_pos (by omega), if_pos hk]
      · rw [if_neg (by simpa using hk), if_neg hk]
    obtain ⟨r, s1, s2, s3⟩ := moved_go a b ga gb na nb la lb l (k + 1) (if y1.Key ≠ y2.Key then q ++ [x] else q) (fun y hy => h y (List.mem_cons_of_mem _ hy)) (by
      split
      · simp only [List.length_append, List.length_cons, List.length_nil]; omega
      · omega)
    refine ⟨r, ?_, ?_, s3⟩
    · show (upstream_Moved_L3 a b k x q).bind _ = _
      rw [hM]; exact s1
    · show (gateref2_MovedOf_L1 a b k x q).bind _ = _
      rw [hR]; exact s2
theorem lawM2 (r2 r4 : (List S_api_Instance) × S_gatemake_Stream) (ks : List Bs) (h2 : InsB r2.1 ∧ r2.1.length ≤ 4) (h4 : InsB r4.1 ∧ r4.1.length ≤ 4) (hk : ks.length ≤ 500 ∧ ∀ x, x ∈ ks → x.length ≤ 1000) : gatelaw2_KeysMoved_J2 r2 r4 ks = some true := by
  have c2 := chkI_eq r2.1 h2.1
  have c4 := chkI_eq r4.1 h4.1
  have hM : m_upstream_Moved r2.1 r4.1 ks = if ciF r2.1 ≠ 0 then some ([], ciF r2.1) else if ciF r4.1 ≠ 0 then some ([], ciF r4.1) else upstream_Moved_E1 r2.1 r4.1 ks := by
    unfold m_upstream_Moved
    rw [if_pos (by decide)]
    exact chk2_go (fun _ => upstream_Moved_E1 r2.1 r4.1 ks) r2.1 r4.1 _ _ c2 c4
  have hE : upstream_Moved_E1 r2.1 r4.1 ks = if kfL ks ≠ 0 then some ([], kfL ks) else upstream_Moved_E2 r2.1 r4.1 ks := by
    unfold upstream_Moved_E1
    rw [if_neg (by simp; omega), if_pos (by omega)]
    exact keys_go (fun _ => upstream_Moved_E2 r2.1 r4.1 ks) ks 0
  have w0 : ∀ l : List S_api_Instance, decide ((l.length : Int) = 0) = decide (l = []) := fun l => decide_eq_decide.2 (by
    cases l with
    | nil => simp
    | cons a b => simp only [List.length_cons, reduceCtorEq, iff_false]; omega)
  -- the fault of all
  obtain ⟨ft, hft⟩ : ∃ ft, ft = erF [erF [ciF r2.1, ciF r4.1], kfL ks, if (decide (r2.1 = []) || decide (r4.1 = [])) = true then 8 else 0] := ⟨_, rfl⟩
  have key : ∃ a, m_upstream_Moved r2.1 r4.1 ks = some (a, ft) ∧ (ft ≠ 0 → a = []) ∧ (ft = 0 → m_gateref2_MovedOf r2.1 r4.1 ks = some a ∧ a.length ≤ 1000) := by
    rw [hM, hft]
    by_cases e2 : ciF r2.1 ≠ 0
    · have q : erF [ciF r2.1, ciF r4.1] = ciF r2.1 := if_pos e2
      rw [if_pos e2, q]
      have q2 : ∀ l, erF (ciF r2.1 :: l) = ciF r2.1 := fun l => if_pos e2
      rw [q2]
      exact ⟨[], rfl, fun _ => rfl, fun h => absurd h e2⟩
    · have q : erF [ciF r2.1, ciF r4.1] = erF [ciF r4.1] := if_neg e2
      rw [if_neg e2, q]
      by_cases e4 : ciF r4.1 ≠ 0
      · have q3 : erF [ciF r4.1] = ciF r4.1 := if_pos e4
        have q2 : ∀ l, erF (ciF r4.1 :: l) = ciF r4.1 := fun l => if_pos e4
        rw [if_pos e4, q3, q2]
        exact ⟨[], rfl, fun _ => rfl, fun h => absurd h e4⟩
      · have q3 : erF [ciF r4.1] = 0 := if_neg e4
        have q2 : ∀ l, erF ((0 : Int) :: l) = erF l := fun l => rfl
        rw [if_neg e4, q3, q2, hE]
        by_cases ek : kfL ks ≠ 0
        · have q4 : ∀ l, erF (kfL ks :: l) = kfL ks := fun l => if_pos ek
          rw [if_pos ek, q4]
          exact ⟨[], rfl, fun _ => rfl, fun h => absurd h ek⟩
        · have q4 : ∀ l, erF (kfL ks :: l) = erF l := fun l => if_neg ek
          rw [if_neg ek, q4]
          have ga := insG_of (xs := r2.1) (by omega)
          have gb := insG_of (xs := r4.1) (by omega)
          unfold upstream_Moved_E2
          rw [w0, w0]
          cases hn : (decide (r2.1 = []) || decide (r4.1 = []))
          · simp only [Bool.or_eq_false_iff, decide_eq_false_iff_not] at hn
            rw [if_neg (by simp), if_pos (by omega)]
            obtain ⟨r, s1, s2, s3⟩ := moved_go r2.1 r4.1 ga gb hn.1 hn.2 (by omega) (by omega) ks 0 [] hk.2 (by simp; omega)
            rw [s1, if_neg (by simp)]
            refine ⟨r, rfl, fun h => absurd rfl h, fun _ => ⟨?_, s3⟩⟩
            unfold m_gateref2_MovedOf
            rw [if_pos (by omega), s2]
          · rw [if_pos rfl, if_pos rfl]
            exact ⟨[], rfl, fun _ => rfl, fun h => by simp [erF] at h⟩
  obtain ⟨a, p1, p2, p3⟩ := key
  unfold gatelaw2_KeysMoved_J2
  rw [p1, ifault_eq r2.1 h2.1, ifault_eq r4.1 h4.1]
  simp only [Option.bind_some]
  rw [errs_eq _ (by simp)]
  simp only [Option.bind_some]
  rw [if_pos (by omega), lawK_go]
  unfold gatelaw2_KeysMoved_E3 gatelaw2_KeysMoved_J4 gatelaw2_KeysMoved_J5
  rw [when_eq, w0, w0]
  simp only [Option.bind_some]
  rw [errs_eq _ (by simp)]
  simp only [Option.bind_some]
  have e : erF [if erF [ciF r2.1, ciF r4.1] ≠ 0 then erF [ciF r2.1, ciF r4.1] else kfL ks, if (decide (r2.1 = []) || decide (r4.1 = [])) = true then 8 else 0] = ft := by
    rw [hft]
    by_cases h : erF [ciF r2.1, ciF r4.1] ≠ 0
    · have q2 : ∀ l, erF (erF [ciF r2.1, ciF r4.1] :: l) = erF [ciF r2.1, ciF r4.1] := fun l => if_pos h
      rw [if_pos h, q2, q2]
    · have q2 : ∀ l, erF (erF [ciF r2.1, ciF r4.1] :: l) = erF l := fun l => if_neg h
      rw [if_neg h, q2]
  rw [e]
  by_cases hz : ft = 0
  · obtain ⟨p4, p5⟩ := p3 hz
    rw [if_neg (by simpa using hz), if_pos (by simpa using hz), p4]
    simp only [Option.bind_some]
    rw [eqS_self a (by omega)]
    simp only [Option.bind_some, if_true, balanced_eq]
  · rw [if_pos (by simpa using hz), if_pos (by simp), if_pos (by simp [p2 hz]), balanced_eq]; rfl
theorem keysMoved_plain (L : List Int) : m_gatelaw2_KeysMoved L = some true := by
  refine ok_eq ?_
  unfold m_gatelaw2_KeysMoved
  refine ok_bind (ins_ok (k := 0) ⟨by simp, by simp⟩ (by omega)) fun r2 h2 => ok_bind (ins_ok h2.2 (by omega)) fun r4 h4 => ok_bind (range_ok h4.2 (by omega) 0 6 (by omega)) fun r6 h6 => ?_
  obtain ⟨m, hm⟩ : ∃ m : Nat, r6.1 = (m : Int) := ⟨r6.1.toNat, by omega⟩
  have h3 := h6.1
  rw [hm] at h3 ⊢
  rw [Int.toNat_natCast]
  refine ok_g (by omega) ?_
  refine ok_rng (fun j (q : List Int × Int × List Bs) => j ≤ m ∧ SB (400 + (j : Int)) (S_gatemake_Stream.mk q.1 q.2.1) ∧ q.2.2.length ≤ j ∧ ∀ x, x ∈ q.2.2 → x.length ≤ 1000) m 0 _ ⟨by omega, h6.2.mono (by omega), by simp, by simp⟩ ?_ ?_
  · rintro j ⟨c5, c6, l7⟩ _ hj ⟨g0, g1, g2, g3⟩
    simp only at g1 g2 g3 ⊢
    unfold gatelaw2_KeysMoved_L1
    refine ok_bind (some_ok g1 (by omega) _ ⟨by simp, by simp⟩) fun q hq => ok_g (by omega) (ok_some ?_)
    refine ⟨by omega, hq.2.mono (by omega), by simp; omega, fun x hx => ?_⟩
    rcases List.mem_append.1 hx with h | h
    · exact g3 x h
    · rw [List.mem_singleton.1 h]
      have := hq.1
      simp only [List.mem_cons, List.not_mem_nil, or_false] at this
      rcases this with e | e | e | e | e <;> rw [e] <;> simp
  · rintro ⟨c5, c6, l7⟩ ⟨g0, g1, g2, g3⟩
    simp only at g1 g2 g3 ⊢
    unfold gatelaw2_KeysMoved_E1
    refine ok_bind (flip_ok g1 (by omega) 20 (by omega)) fun q hq => ok_if (fun _ => ?_) (fun _ => ok_of (lawM2 r2 r4 l7 h2.1 h4.1 ⟨by omega, g3⟩) rfl)
    refine ok_g (by omega) (ok_of (lawM2 r2 r4 _ h2.1 h4.1 ⟨by simp; omega, fun x hx => ?_⟩) rfl)
    rcases List.mem_append.1 hx with h | h
    · exact g3 x h
    · rw [List.mem_singleton.1 h]; simp
end Go.Proofs.Ytmlbmkfbleicaaa
