/- Plain: the law CookiesRead is true for every list of numbers. -/
import Derived.Test.YthodoodnkohdaaaGreatDoorCkYk
namespace Go.Proofs.YthodoodnkohdaaaGreatDoor
set_option linter.unusedVariables false
set_option maxRecDepth 20000
/-- states of the reading loop -/
abbrev Pst := Bs × Bs × Int × Bool × Bool
abbrev zzC : S_api_Cookie × Int := (S_api_Cookie.mk [] [] [] [] 0 false false, 9)
def pI (s : Pst) : Prop := (s.1.length ≤ 100000 ∧ s.2.1.length ≤ 100000) ∧ ascB s.1 = true ∧ (-100000000000000000 < s.2.2.1 ∧ s.2.2.1 < 100000000000000000)
theorem step_both (j : Nat) (x : Bs) (hx : x.length ≤ 100000) (ha : ascB x = true) (s : Pst) (hs : pI s) :
    (∃ s', gateref2_CookieOf_L1 j x s.1 s.2.1 s.2.2.1 s.2.2.2.1 s.2.2.2.2 = some (.inl s') ∧ pI s' ∧ (isBad x = false → message_ParseCookie_L1 j x s.1 s.2.1 s.2.2.1 s.2.2.2.1 s.2.2.2.2 = some (.inl s'))) ∧
    (isBad x = true → message_ParseCookie_L1 j x s.1 s.2.1 s.2.2.1 s.2.2.2.1 s.2.2.2.2 = some (.inr zzC)) := by
  obtain ⟨c1, c2, c3, c4⟩ := cut1_len x 61
  have hb : isBad x = (decide ((Lib.cut x [61]).1 = ageL) && !okN 16 (Lib.cut x [61]).2.1) := rfl
  rw [hb]
  unfold gateref2_CookieOf_L1 message_ParseCookie_L1 m_strings_Cut
  rw [if_pos (show x.length ≤ 1000000000 by omega)]
  simp only [Option.bind_some]
  generalize Lib.cut x [61] = c at *
  have hv : ascB c.2.1 = true := asc_mem ha c4
  obtain ⟨⟨i1, i2⟩, i3, i4⟩ := hs
  by_cases h1 : c.1 = [68, 111, 109, 97, 105, 110]
  · have hn : decide (c.1 = ageL) = false := by rw [h1]; decide
    rw [hn]
    rw [show decide (c.1 = [68, 111, 109, 97, 105, 110]) = true from decide_eq_true h1]
    simp only [if_true]
    exact ⟨⟨(c.2.1, s.2.1, s.2.2.1, s.2.2.2.1, s.2.2.2.2), rfl, ⟨⟨by simp only; omega, i2⟩, hv, i4⟩, fun _ => rfl⟩, fun h => by simp at h⟩
  rw [show decide (c.1 = [68, 111, 109, 97, 105, 110]) = false from decide_eq_false h1]
  simp only [Bool.false_eq_true, if_false]
  by_cases h2 : c.1 = [80, 97, 116, 104]
  · have hn : decide (c.1 = ageL) = false := by rw [h2]; decide
    rw [hn]
    rw [show decide (c.1 = [80, 97, 116, 104]) = true from decide_eq_true h2]
    simp only [if_true]
    exact ⟨⟨(s.1, c.2.1, s.2.2.1, s.2.2.2.1, s.2.2.2.2), rfl, ⟨⟨i1, by simp only; omega⟩, i3, i4⟩, fun _ => rfl⟩, fun h => by simp at h⟩
  rw [show decide (c.1 = [80, 97, 116, 104]) = false from decide_eq_false h2]
  simp only [Bool.false_eq_true, if_false]
  by_cases h3 : c.1 = ageL
  · obtain ⟨w, w1, w2, w3⟩ := ref_number c.2.1 16 (by omega) (by omega)
    have hk := kit_number c.2.1 16 (by omega) (by omega)
    have w1' : m_gateref2_Number c.2.1 16 = some (w, okN 16 c.2.1) := w1
    have hk' : m_kit_Number c.2.1 16 = some (if okN 16 c.2.1 then valB c.2.1 else 0, okN 16 c.2.1) := hk
    have hd : decide (c.1 = ageL) = true := by simpa using h3
    rw [hd, w1', hk']
    simp only [if_true, Option.bind_some]
    cases hok : okN 16 c.2.1
    · exact ⟨⟨(s.1, s.2.1, w, s.2.2.2.1, s.2.2.2.2), rfl, ⟨⟨i1, i2⟩, i3, w3⟩, fun h => by simp at h⟩, fun _ => rfl⟩
    · have hw := w2 hok
      refine ⟨⟨(s.1, s.2.1, w, s.2.2.2.1, s.2.2.2.2), rfl, ⟨⟨i1, i2⟩, i3, w3⟩, fun _ => ?_⟩, fun h => by simp at h⟩
      rw [hw]; rfl
  have hn : decide (c.1 = ageL) = false := by simpa using h3
  rw [hn]
  simp only [Bool.false_eq_true, if_false]
  by_cases h4 : c.1 = [83, 101, 99, 117, 114, 101]
  · rw [show decide (c.1 = [83, 101, 99, 117, 114, 101]) = true from decide_eq_true h4]
    simp only [if_true]
    exact ⟨⟨(s.1, s.2.1, s.2.2.1, true, s.2.2.2.2), rfl, ⟨⟨i1, i2⟩, i3, i4⟩, fun _ => rfl⟩, fun h => by simp at h⟩
  rw [show decide (c.1 = [83, 101, 99, 117, 114, 101]) = false from decide_eq_false h4]
  simp only [Bool.false_eq_true, if_false]
  by_cases h5 : c.1 = [72, 116, 116, 112, 79, 110, 108, 121]
  · rw [show decide (c.1 = [72, 116, 116, 112, 79, 110, 108, 121]) = true from decide_eq_true h5]
    simp only [if_true]
    exact ⟨⟨(s.1, s.2.1, s.2.2.1, s.2.2.2.1, true), rfl, ⟨⟨i1, i2⟩, i3, i4⟩, fun _ => rfl⟩, fun h => by simp at h⟩
  rw [show decide (c.1 = [72, 116, 116, 112, 79, 110, 108, 121]) = false from decide_eq_false h5]
  simp only [Bool.false_eq_true, if_false]
  exact ⟨⟨(s.1, s.2.1, s.2.2.1, s.2.2.2.1, s.2.2.2.2), rfl, ⟨⟨i1, i2⟩, i3, i4⟩, fun _ => rfl⟩, fun h => by simp at h⟩
def mkC (r6 : Bs × Bs × Bool) (s : Pst) : S_api_Cookie := S_api_Cookie.mk r6.1 r6.2.1 s.1 s.2.1 s.2.2.1 s.2.2.2.1 s.2.2.2.2
theorem end_both (v : Bs) (r6 : Bs × Bs × Bool) (h6 : (r6.1.length ≤ 100000 ∧ r6.2.1.length ≤ 100000) ∧ ascB r6.2.1 = true) (s : Pst) (hs : pI s) :
    ∃ r, message_ParseCookie_E1 v r6 s.1 s.2.1 s.2.2.1 s.2.2.2.1 s.2.2.2.2 = some r ∧ gateref2_CookieOf_E1 v r6 s.1 s.2.1 s.2.2.1 s.2.2.2.1 s.2.2.2.2 = some r ∧ (r = zzC ∨ (textC (mkC r6 s) = v ∧ goodC (mkC r6 s))) := by
  have hc : ckP (mkC r6 s) := ⟨⟨h6.1.1, h6.1.2, hs.1.1, hs.1.2⟩, ⟨h6.2, hs.2.1⟩, hs.2.2⟩
  obtain ⟨f, f1, f2, f3⟩ := text_same _ hc
  have f4 : m_gateref2_CookieLine (S_api_Cookie.mk r6.1 r6.2.1 s.1 s.2.1 s.2.2.1 s.2.2.2.1 s.2.2.2.2) = some (textC (mkC r6 s)) := cookieLine_eq _ hc
  have f1' : m_gateref2_CookieFault (S_api_Cookie.mk r6.1 r6.2.1 s.1 s.2.1 s.2.2.1 s.2.2.2.1 s.2.2.2.2) = some f := f1
  have f2' : m_message_CookieText (S_api_Cookie.mk r6.1 r6.2.1 s.1 s.2.1 s.2.2.1 s.2.2.2.1 s.2.2.2.2) = some (if f = 0 then (textC (mkC r6 s), 0) else ([], f)) := f2
  unfold message_ParseCookie_E1 gateref2_CookieOf_E1 gateref2_CookieOf_J2
  rw [f1', f2', f4]
  simp only [Option.bind_some]
  by_cases h0 : f = 0
  · rw [if_pos h0, if_neg (show ¬ decide (f ≠ 0) = true by simpa using h0)]
    by_cases ht : textC (mkC r6 s) = v
    · rw [if_neg (by simp [ht]), if_neg (by simp [ht])]
      exact ⟨_, rfl, rfl, .inr ⟨ht, f3 h0⟩⟩
    · rw [if_pos (by simp [ht]), if_pos (by simp [ht])]
      exact ⟨_, rfl, rfl, .inl rfl⟩
  · rw [if_neg h0, if_pos (show decide (f ≠ 0) = true by simpa using h0), if_pos (by simp [h0])]
    exact ⟨_, rfl, rfl, .inl rfl⟩
theorem parse_same (s : Bs) (h : s.length ≤ 50000) (ha : ascB s = true) : ∃ r, m_message_ParseCookie s = some r ∧ m_gateref2_CookieOf s = some r := by
  obtain ⟨h1, h2, h3⟩ := split2_ok s
  unfold m_message_ParseCookie m_gateref2_CookieOf m_strings_Split
  rw [if_pos ⟨by omega, by simp⟩]
  simp only [Option.bind_some]
  cases hl : splitL s scL with
  | nil => exact absurd hl h1
  | cons x4 l8 =>
    rw [hl] at h2 h3
    have hsub : sub? (x4 :: l8) 1 ((x4 :: l8).length : Int) = some l8 := by
      unfold sub?
      rw [if_pos (by simp only [List.length_cons]; omega), List.take_of_length_le (by simp)]; rfl
    obtain ⟨c1, c2, c3, c4⟩ := cut1_len x4 61
    have hx4 := h3 x4 (by simp)
    simp only [List.getElem?_cons_zero, Option.bind_some]
    unfold m_strings_Cut
    rw [if_pos (by omega)]
    simp only [Option.bind_some]
    rw [hsub]
    simp only [Option.bind_some]
    simp only [List.length_cons] at h2
    rw [if_pos (by omega), if_pos (by omega)]
    generalize hr6 : Lib.cut x4 [61] = r6 at *
    have h6 : (r6.1.length ≤ 100000 ∧ r6.2.1.length ≤ 100000) ∧ ascB r6.2.1 = true := ⟨⟨by omega, by omega⟩, asc_mem (asc_mem ha hx4.2) c4⟩
    have hstep : ∀ (j : Nat) (x : Bs) (q : Pst), x ∈ l8 → pI q → _ := fun j x q hx hq => step_both j x (by have := (h3 x (List.mem_cons_of_mem _ hx)).1; omega) (asc_mem ha (h3 x (List.mem_cons_of_mem _ hx)).2) q hq
    have hI0 : pI ([], [], -1, false, false) := ⟨⟨by simp, by simp⟩, rfl, by decide, by decide⟩
    cases hb : l8.any isBad
    · obtain ⟨r, r1, r2, _⟩ := forL_both (body := fun (k : Nat) (x : Bs) (s : Pst) => message_ParseCookie_L1 k x s.1 s.2.1 s.2.2.1 s.2.2.2.1 s.2.2.2.2) (body' := fun (k : Nat) (x : Bs) (s : Pst) => gateref2_CookieOf_L1 k x s.1 s.2.1 s.2.2.1 s.2.2.2.1 s.2.2.2.2) (fin := fun (q : Pst) => message_ParseCookie_E1 s r6 q.1 q.2.1 q.2.2.1 q.2.2.2.1 q.2.2.2.2) (fin' := fun (q : Pst) => gateref2_CookieOf_E1 s r6 q.1 q.2.1 q.2.2.1 q.2.2.2.1 q.2.2.2.2) (R := fun _ => True) (fun _ => pI) l8 0 ([], [], -1, false, false) hI0
        (fun j x q _ hx hq => by
          have hm := List.mem_of_getElem? hx
          obtain ⟨⟨s', a, b, c⟩, _⟩ := hstep j x q hm hq
          have hbx : isBad x = false := by
            rw [List.any_eq_false] at hb
            simpa using hb x hm
          exact ⟨.inl s', c hbx, a, b⟩)
        (fun q hq => by
          obtain ⟨r, a, b, _⟩ := end_both s r6 h6 q hq
          exact ⟨r, a, b, trivial⟩)
      exact ⟨r, r1, r2⟩
    · refine ⟨zzC, ?_, ?_⟩
      · refine forL_stop (body := fun (k : Nat) (x : Bs) (s : Pst) => message_ParseCookie_L1 k x s.1 s.2.1 s.2.2.1 s.2.2.2.1 s.2.2.2.2) (fin := fun (q : Pst) => message_ParseCookie_E1 s r6 q.1 q.2.1 q.2.2.1 q.2.2.2.1 q.2.2.2.2) pI isBad l8 0 ([], [], -1, false, false) hI0 (fun j x q hx hq => ?_) hb
        obtain ⟨⟨s', a, b, c⟩, d⟩ := hstep j x q hx hq
        cases hbx : isBad x
        · rw [if_neg (by simp)]
          exact ⟨s', c hbx, b⟩
        · rw [if_pos rfl]
          exact d hbx
      · refine forL_go (body := fun (k : Nat) (x : Bs) (s : Pst) => gateref2_CookieOf_L1 k x s.1 s.2.1 s.2.2.1 s.2.2.2.1 s.2.2.2.2) (fin := fun (q : Pst) => gateref2_CookieOf_E1 s r6 q.1 q.2.1 q.2.2.1 q.2.2.2.1 q.2.2.2.2) pI (fun q hq => ?_) l8 0 ([], [], -1, false, false) hI0 (fun j x q hx hq => ?_)
        · obtain ⟨r, a, b, c⟩ := end_both s r6 h6 q hq
          rcases c with rfl | ⟨c, d⟩
          · exact b
          · exfalso
            have e := split2_join (headC (mkC r6 q) :: restC (mkC r6 q)) (by simp) (parts_no59 _ d)
            have e2 : textC (mkC r6 q) = s := c
            unfold textC at e2
            rw [e2, hl] at e
            have e3 : l8 = restC (mkC r6 q) := (List.cons.inj e).2
            rw [e3, rest_good _ d] at hb
            cases hb
        · obtain ⟨⟨s', a, b, c⟩, d⟩ := hstep j x q hx hq
          exact ⟨s', a, b⟩
/-- streams -/
def aQ (n : Nat) (s : Bs) : Bool := ascB s && decide (s.length ≤ n)
theorem aQ_at {n : Nat} {s : Bs} (h : aQ n s = true) : ascB s = true ∧ s.length ≤ n := by
  unfold aQ at h
  simpa using h
theorem someA_ok {k : Int} {s : S_gatemake_Stream} (h : SB k s) (hk : k ≤ 100000000) (n : Nat) (l : List Bs) (hl : l ≠ [] ∧ l.length ≤ 1000) (hQ : l.all (aQ n) = true) : Ok (m_gatemake_Stream_Some s l) fun r => (ascB r.1 = true ∧ r.1.length ≤ n) ∧ SB (k + 1) r.2 :=
  ok_mono (some_ok h hk l hl) fun r hr => ⟨aQ_at (List.all_eq_true.1 hQ _ hr.1), hr.2⟩
def hdA (h : S_api_Header) : Prop := hdP h ∧ nmOK h
theorem hdA_snoc {l : List S_api_Header} {x : S_api_Header} (h : ∀ y, y ∈ l → hdA y) (hx : hdA x) : ∀ y, y ∈ l ++ [x] → hdA y := by
  intro y hy
  rcases List.mem_append.1 hy with hy | hy
  · exact h y hy
  · rw [List.mem_singleton.1 hy]; exact hx
theorem hdA_mk {a b : Bs} (h1 : ascB a = true ∧ a.length ≤ 3000) (h2 : b.length ≤ 30000) : hdA (S_api_Header.mk a b) := ⟨⟨by show a.length ≤ _; omega, by show b.length ≤ _; omega⟩, h1.1, by show a.length ≤ _; omega⟩
theorem tokenA_ok {k : Int} {s : S_gatemake_Stream} (h : SB k s) (hk : k ≤ 100000) : Ok (m_gatemake_Stream_TokenText s) fun r => (ascB r.1 = true ∧ r.1.length ≤ 3000) ∧ SB (k + 1) r.2 := by
  unfold m_gatemake_Stream_TokenText
  refine ok_bind (rep_some _ _ ⟨by omega, by omega, by simp⟩) fun r4 h4 => ?_
  subst h4
  exact ok_bind (someA_ok h (by omega) 3000 _ ⟨by simp, by simp⟩ (by decide +kernel)) fun r5 h5 => ok_some h5
theorem rightHeadersA_ok {k : Int} {s : S_gatemake_Stream} (h : SB k s) (hk : k ≤ 10000) (most : Int) (hm : 0 ≤ most ∧ most ≤ 10) :
    Ok (m_gatemake_Stream_RightHeaders s most) fun r => (r.1.length ≤ 10 ∧ ∀ y, y ∈ r.1 → hdA y) ∧ SB (k + 30) r.2 := by
  unfold m_gatemake_Stream_RightHeaders
  refine ok_bind (range_ok h (by omega) 0 most (by omega)) fun r hr => ?_
  obtain ⟨m, hm⟩ : ∃ m : Nat, r.1 = (m : Int) := ⟨r.1.toNat, by omega⟩
  rw [hm, Int.toNat_natCast]
  refine ok_g (by omega) ?_
  refine ok_rng (fun j (q : List Int × Int × List S_api_Header) => j ≤ m ∧ SB (k + 1 + 2 * (j : Int)) (S_gatemake_Stream.mk q.1 q.2.1) ∧ q.2.2.length ≤ j ∧ ∀ y, y ∈ q.2.2 → hdA y) m 0 _ ⟨by omega, hr.2.mono (by omega), by simp, by simp⟩ ?_ ?_
  · rintro j ⟨c5, c6, l7⟩ _ hj ⟨h0, h1, h2, h3⟩
    simp only at h1 h2 h3 ⊢
    unfold gatemake_Stream_RightHeaders_L1
    refine ok_bind (someA_ok h1 (by omega) 3000 _ ⟨by simp, by simp⟩ (by decide +kernel)) fun r1 hr1 => ok_bind (someA_ok hr1.2 (by omega) 3000 _ ⟨by simp, by simp⟩ (by decide +kernel)) fun r2 hr2 => ok_g (by omega) (ok_some ?_)
    exact ⟨by omega, hr2.2.mono (by omega), by simp; omega, hdA_snoc h3 (hdA_mk hr1.1 (by have := hr2.1.2; omega))⟩
  · rintro ⟨c5, c6, l7⟩ ⟨h0, h1, h2, h3⟩
    simp only at h1 h2 h3 ⊢
    unfold gatemake_Stream_RightHeaders_E1
    exact ok_some ⟨⟨by simp only; omega, h3⟩, h1.mono (by omega)⟩
theorem headersA_ok {k : Int} {s : S_gatemake_Stream} (h : SB k s) (hk : k ≤ 10000) (most : Int) (hm : 0 ≤ most ∧ most ≤ 10) :
    Ok (m_gatemake_Stream_Headers s most) fun r => (r.1.length ≤ 100 ∧ ∀ y, y ∈ r.1 → hdA y) ∧ SB (k + 40) r.2 := by
  have hJ2 : ∀ (l : List S_api_Header) (c : List Int) (a : Int), (l.length ≤ 100 ∧ ∀ y, y ∈ l → hdA y) → SB (k + 40) (S_gatemake_Stream.mk c a) → Ok (gatemake_Stream_Headers_J2 l c a) fun r => (r.1.length ≤ 100 ∧ ∀ y, y ∈ r.1 → hdA y) ∧ SB (k + 40) r.2 := by
    intro l c a hl hs
    unfold gatemake_Stream_Headers_J2
    exact ok_some ⟨hl, hs⟩
  have hJ : ∀ (l : List S_api_Header) (c : List Int) (a : Int), l.length ≤ 11 ∧ (∀ y, y ∈ l → hdA y) → SB (k + 39) (S_gatemake_Stream.mk c a) → Ok (gatemake_Stream_Headers_J1 l c a) fun r => (r.1.length ≤ 100 ∧ ∀ y, y ∈ r.1 → hdA y) ∧ SB (k + 40) r.2 := by
    intro l c a hl hs
    unfold gatemake_Stream_Headers_J1
    refine ok_bind (flip_ok hs (by omega) 60 (by omega)) fun r hr => ok_if (fun _ => ok_g (by omega) ?_) (fun _ => hJ2 _ _ _ ⟨by have := hl.1; omega, hl.2⟩ (hr.mono (by omega)))
    refine ok_rng (fun j (q : List S_api_Header) => q.length ≤ 11 + j ∧ ∀ y, y ∈ q → hdA y) 51 0 _ ⟨by have := hl.1; omega, hl.2⟩ ?_ ?_
    · rintro j q _ hj ⟨h0, h1⟩
      unfold gatemake_Stream_Headers_L3
      exact ok_g (by omega) (ok_some ⟨by simp; omega, hdA_snoc h1 (hdA_mk ⟨rfl, by simp⟩ (by simp))⟩)
    · rintro q ⟨h0, h1⟩
      unfold gatemake_Stream_Headers_E3
      exact hJ2 _ _ _ ⟨by omega, h1⟩ (hr.mono (by omega))
  unfold m_gatemake_Stream_Headers
  refine ok_bind (rightHeadersA_ok h (by omega) most hm) fun r hr => ok_bind (flip_ok hr.2 (by omega) 10 (by omega)) fun r5 h5 => ok_if (fun _ => ?_) (fun _ => ?_)
  · refine ok_bind (tokenA_ok h5 (by omega)) fun r8 h8 => ok_bind (fieldText_ok h8.2 (by omega)) fun r10 h10 => ok_g (by have := hr.1.1; omega) ?_
    exact hJ _ _ _ ⟨by have := hr.1.1; simp; omega, hdA_snoc hr.1.2 (hdA_mk h8.1 (by have := h10.1; omega))⟩ (h10.2.mono (by omega))
  · exact hJ _ _ _ ⟨by have := hr.1.1; omega, hr.1.2⟩ (h5.mono (by omega))
theorem cookieHeaders_ok {k : Int} {s : S_gatemake_Stream} (h : SB k s) (hk : k ≤ 1000) :
    Ok (m_gatemake_Stream_CookieHeaders s) fun r => (r.1.length ≤ 200 ∧ ∀ y, y ∈ r.1 → hdA y) ∧ SB (k + 200) r.2 := by
  unfold m_gatemake_Stream_CookieHeaders
  refine ok_bind (headersA_ok h (by omega) 1 (by omega)) fun r2 h2 => ?_
  have hdel : m_slices_DeleteFunc_L_api_Header_api_Header_ r2.1 (fun (a0 : S_api_Header) => m_gatemake_Stream_CookieHeaders_1 a0) = some (r2.1.filter fun x => !decide (lo x.Name = ckL)) :=
    gDel_eq (S_api_Header.mk [] []) r2.1 (p := fun (a0 : S_api_Header) => m_gatemake_Stream_CookieHeaders_1 a0) (fun x => decide (lo x.Name = ckL)) (by have := h2.1.1; omega) fun x hx => by
      have := (h2.1.2 x hx).2
      unfold m_gatemake_Stream_CookieHeaders_1 m_strings_ToLower
      rw [if_pos ⟨by have := this.2; omega, this.1⟩]; rfl
  rw [hdel]
  simp only [Option.bind_some]
  generalize hfl : (r2.1.filter fun x => !decide (lo x.Name = ckL)) = fl
  have hf1 : fl.length ≤ 100 := by
    rw [← hfl]
    have := (List.filter_sublist (p := fun x : S_api_Header => !decide (lo x.Name = ckL)) (l := r2.1)).length_le
    have := h2.1.1
    omega
  have hf2 : ∀ y, y ∈ fl → hdA y := fun y hy => h2.1.2 y (by rw [← hfl] at hy; exact (List.mem_filter.1 hy).1)
  refine ok_bind (range_ok h2.2 (by omega) 0 3 (by omega)) fun r6 h6 => ?_
  obtain ⟨m, hm⟩ : ∃ m : Nat, r6.1 = (m : Int) := ⟨r6.1.toNat, by omega⟩
  rw [hm, Int.toNat_natCast]
  refine ok_g (by omega) ?_
  refine ok_rng (fun j (q : List Int × Int × List S_api_Header) => j ≤ m ∧ SB (k + 41 + 6 * (j : Int)) (S_gatemake_Stream.mk q.1 q.2.1) ∧ q.2.2.length ≤ 100 + j ∧ ∀ y, y ∈ q.2.2 → hdA y) m 0 _ ⟨by omega, h6.2.mono (by omega), by simpa using hf1, hf2⟩ ?_ ?_
  · rintro j ⟨c5, c6, l7⟩ _ hj ⟨h0, h1, h2, h3⟩
    simp only at h1 h2 h3 ⊢
    unfold gatemake_Stream_CookieHeaders_L1
    refine ok_bind (someA_ok h1 (by omega) 3000 _ ⟨by simp, by simp⟩ (by decide +kernel)) fun r24 h24 => ok_bind (range_ok h24.2 (by omega) 1 3 (by omega)) fun r26 h26 => ok_bind (someB_ok h26.2 (by omega) 2 _ ⟨by simp, by simp⟩ (by decide)) fun r28 h28 => ?_
    obtain ⟨z, hz⟩ : ∃ z : Nat, r26.1 = (z : Int) := ⟨r26.1.toNat, by omega⟩
    rw [hz]
    refine ok_bind (words_ok h28.2 (by omega) z (by omega) r28.1 (by have := h28.1; omega) _ ⟨by simp, by simp⟩ (by decide)) fun r30 h30 => ok_g (by omega) (ok_some ?_)
    exact ⟨by omega, h30.2.mono (by omega), by simp; omega, hdA_snoc h3 (hdA_mk h24.1 h30.1)⟩
  · rintro ⟨c5, c6, l7⟩ ⟨h0, h1, h2, h3⟩
    simp only at h1 h2 h3 ⊢
    unfold gatemake_Stream_CookieHeaders_E1 gatemake_Stream_CookieHeaders_J2
    refine ok_bind (flip_ok h1 (by omega) 8 (by omega)) fun r14 h14 => ok_if (fun _ => ?_) (fun _ => ok_some ⟨⟨by simp only; omega, h3⟩, h14.mono (by omega)⟩)
    refine ok_bind (someB_ok h14 (by omega) 100 _ ⟨by simp, by simp⟩ (by decide)) fun r17 h17 => ok_g (by omega) (ok_some ⟨⟨by simp; omega, hdA_snoc h3 (hdA_mk ⟨rfl, by simp⟩ (by have := h17.1; omega))⟩, h17.2.mono (by omega)⟩)
/-- cookies of the streams -/
def ckA (c : S_api_Cookie) : Prop := (aQ 100 c.Name = true ∧ aQ 100 c.Value = true ∧ aQ 100 c.Domain = true ∧ aQ 100 c.Path = true) ∧ (-2000000000000 ≤ c.MaxAge ∧ c.MaxAge ≤ 2000000000000)
theorem ckA_P {c : S_api_Cookie} (h : ckA c) : ckP c := by
  obtain ⟨⟨h1, h2, h3, h4⟩, h5⟩ := h
  have a1 := aQ_at h1
  have a2 := aQ_at h2
  have a3 := aQ_at h3
  have a4 := aQ_at h4
  exact ⟨⟨by omega, by omega, by omega, by omega⟩, ⟨a2.1, a3.1⟩, by omega, by omega⟩
theorem someQ_ok {k : Int} {s : S_gatemake_Stream} (h : SB k s) (hk : k ≤ 100000000) (n : Nat) (l : List Bs) (hl : l ≠ [] ∧ l.length ≤ 1000) (hQ : l.all (aQ n) = true) : Ok (m_gatemake_Stream_Some s l) fun r => aQ n r.1 = true ∧ SB (k + 1) r.2 :=
  ok_mono (some_ok h hk l hl) fun r hr => ⟨List.all_eq_true.1 hQ _ hr.1, hr.2⟩
theorem setCookie_ok {k : Int} {s : S_gatemake_Stream} (h : SB k s) (hk : k ≤ 10000) : Ok (m_gatemake_Stream_SetCookie s) fun r => ckA r.1 ∧ SB (k + 30) r.2 := by
  have hJ : ∀ (r12 r14 : Bool × S_gatemake_Stream) (c35 : List Int) (c36 : Int) (a b d e : Bs) (n : Int), aQ 100 a = true → aQ 100 b = true → aQ 100 d = true → aQ 100 e = true → (-2000000000000 ≤ n ∧ n ≤ 2000000000000) → SB (k + 30) (S_gatemake_Stream.mk c35 c36) →
      Ok (gatemake_Stream_SetCookie_J1 r12 r14 c35 c36 a b d e n) fun r => ckA r.1 ∧ SB (k + 30) r.2 := by
    intro r12 r14 c35 c36 a b d e n h1 h2 h3 h4 h5 h6
    unfold gatemake_Stream_SetCookie_J1
    exact ok_some ⟨⟨⟨h1, h2, h3, h4⟩, h5⟩, h6⟩
  unfold m_gatemake_Stream_SetCookie
  refine ok_bind (someQ_ok h (by omega) 100 _ ⟨by simp, by simp⟩ (by decide +kernel)) fun r2 h2 => ok_bind (someQ_ok h2.2 (by omega) 100 _ ⟨by simp, by simp⟩ (by decide +kernel)) fun r4 h4 => ok_bind (someQ_ok h4.2 (by omega) 100 _ ⟨by simp, by simp⟩ (by decide +kernel)) fun r6 h6 => ok_bind (someQ_ok h6.2 (by omega) 100 _ ⟨by simp, by simp⟩ (by decide +kernel)) fun r8 h8 => ok_bind (pick_ok h8.2 (by omega) _ ⟨by simp, by simp⟩) fun r10 h10 => ok_bind (flip_ok h10.2 (by omega) 2 (by omega)) fun r12 h12 => ok_bind (flip_ok h12 (by omega) 2 (by omega)) fun r14 h14 => ok_bind (flip_ok h14 (by omega) 8 (by omega)) fun r16 h16 => ?_
  have hn : -2000000000000 ≤ r10.1 ∧ r10.1 ≤ 2000000000000 := by
    have := h10.1
    simp only [List.mem_cons, List.not_mem_nil, or_false] at this
    omega
  refine ok_if (fun _ => ?_) (fun _ => hJ _ _ _ _ _ _ _ _ _ h2.1 h4.1 h6.1 h8.1 hn (h16.mono (by omega)))
  refine ok_bind (next_ok h16 (by omega) 5 (by omega)) fun r19 h19 => ok_if (fun _ => ?_) fun _ => ok_if (fun _ => ?_) fun _ => ok_if (fun _ => ?_) fun _ => ok_if (fun _ => ?_) fun _ => ?_
  · exact ok_bind (someQ_ok h19.2 (by omega) 100 _ ⟨by simp, by simp⟩ (by decide +kernel)) fun r22 h22 => hJ _ _ _ _ _ _ _ _ _ h22.1 h4.1 h6.1 h8.1 hn (h22.2.mono (by omega))
  · exact ok_bind (someQ_ok h19.2 (by omega) 100 _ ⟨by simp, by simp⟩ (by decide +kernel)) fun r22 h22 => hJ _ _ _ _ _ _ _ _ _ h2.1 h22.1 h6.1 h8.1 hn (h22.2.mono (by omega))
  · exact ok_bind (someQ_ok h19.2 (by omega) 100 _ ⟨by simp, by simp⟩ (by decide +kernel)) fun r22 h22 => hJ _ _ _ _ _ _ _ _ _ h2.1 h4.1 h22.1 h8.1 hn (h22.2.mono (by omega))
  · exact ok_bind (someQ_ok h19.2 (by omega) 100 _ ⟨by simp, by simp⟩ (by decide +kernel)) fun r22 h22 => hJ _ _ _ _ _ _ _ _ _ h2.1 h4.1 h6.1 h22.1 hn (h22.2.mono (by omega))
  · exact ok_bind (odd_ok h19.2 (by omega) (-1) 1000 (by omega)) fun r33 h33 => hJ _ _ _ _ _ _ _ _ _ h2.1 h4.1 h6.1 h8.1 h33.1 (h33.2.mono (by omega))
theorem asc_app (a b : Bs) : ascB (a ++ b) = (ascB a && ascB b) := by unfold ascB; rw [List.all_append]
theorem join_asc (l : List Bs) (h : ∀ x, x ∈ l → ascB x = true) : ascB (Lib.join l scL) = true := by
  cases l with
  | nil => rfl
  | cons x r =>
    rw [Lib.join_cons, asc_app, h x (by simp), Bool.true_and]
    unfold ascB
    refine List.all_eq_true.2 fun c hc => ?_
    unfold Lib.joinTail at hc
    obtain ⟨y, hy, hcy⟩ := List.mem_flatten.1 hc
    obtain ⟨z, hz, rfl⟩ := List.mem_map.1 hy
    rcases List.mem_append.1 hcy with h1 | h1
    · have : c = 59 ∨ c = 32 := by simpa using h1
      rcases this with rfl | rfl <;> decide
    · exact List.all_eq_true.1 (h z (List.mem_cons_of_mem _ hz)) c h1
theorem itoa_asc {n : Int} (h : 0 ≤ n) : ascB (Lib.itoa n) = true := by
  rw [itoa_nat h]
  unfold ascB
  refine List.all_eq_true.2 fun c hc => ?_
  have h1 := List.all_eq_true.1 (dec_all n.toNat) c hc
  have := u8_all (fun c => !isD c || decide (c.toNat < 128)) (by decide +kernel) c
  rw [h1] at this
  simpa using this
theorem parts_A (c : S_api_Cookie) (h : ckA c) : (∀ p, p ∈ headC c :: restC c → ascB p = true ∧ p.length ≤ 300) ∧ (headC c :: restC c).length ≤ 6 := by
  obtain ⟨⟨h1, h2, h3, h4⟩, h5⟩ := h
  have a1 := aQ_at h1
  have a2 := aQ_at h2
  have a3 := aQ_at h3
  have a4 := aQ_at h4
  constructor
  · intro p hp
    rcases List.mem_cons.1 hp with rfl | hp
    · unfold headC
      refine ⟨?_, by simp; omega⟩
      rw [asc_app, asc_app, a1.1, a2.1]; rfl
    unfold restC at hp
    simp only [List.mem_append] at hp
    rcases hp with hp | hp | hp | hp | hp
    · unfold pDom at hp
      split at hp
      · cases hp
      · rw [List.mem_singleton.1 hp]
        exact ⟨by rw [asc_app, a3.1]; rfl, by simp; omega⟩
    · unfold pPath at hp
      split at hp
      · cases hp
      · rw [List.mem_singleton.1 hp]
        exact ⟨by rw [asc_app, a4.1]; rfl, by simp; omega⟩
    · unfold pAge at hp
      split at hp
      · rename_i h0
        rw [List.mem_singleton.1 hp]
        have := itoa_le h0 (by omega)
        exact ⟨by rw [asc_app, itoa_asc h0]; rfl, by simp; omega⟩
      · cases hp
    · unfold pSec at hp
      split at hp
      · rw [List.mem_singleton.1 hp]; exact ⟨rfl, by simp⟩
      · cases hp
    · unfold pHid at hp
      split at hp
      · rw [List.mem_singleton.1 hp]; exact ⟨rfl, by simp⟩
      · cases hp
  · have b1 : (pDom c).length ≤ 1 := by unfold pDom; split <;> simp
    have b2 : (pPath c).length ≤ 1 := by unfold pPath; split <;> simp
    have b3 : (pAge c).length ≤ 1 := by unfold pAge; split <;> simp
    have b4 : (pSec c).length ≤ 1 := by unfold pSec; split <;> simp
    have b5 : (pHid c).length ≤ 1 := by unfold pHid; split <;> simp
    unfold restC
    simp only [List.length_cons, List.length_append]
    omega
theorem text_A (c : S_api_Cookie) (h : ckA c) : ascB (textC c) = true ∧ (textC c).length ≤ 2000 := by
  obtain ⟨h1, h2⟩ := parts_A c h
  refine ⟨join_asc _ fun x hx => (h1 x hx).1, ?_⟩
  have := join_le 300 scL (headC c :: restC c) fun x hx => (h1 x hx).2
  have h3 : (headC c :: restC c).length * (300 + scL.length) ≤ 6 * 302 := Nat.mul_le_mul h2 (by simp)
  unfold textC
  omega
theorem sub_okA (l : Bs) (a b : Int) (h : 0 ≤ a ∧ a ≤ b ∧ b ≤ (l.length : Int)) (ha : ascB l = true) : Ok (sub? l a b) fun r => r.length ≤ l.length ∧ ascB r = true := by
  unfold sub?
  rw [if_pos h]
  exact ok_some ⟨by simp; omega, asc_mem ha fun c hc => List.mem_of_mem_drop (List.mem_of_mem_take hc)⟩
theorem enc_asc (c : UInt8) (h : c.toNat < 128) : ascB (encL (IntKind.wrap .i32 (c.toNat : Int))) = true := by
  have := u8_all (fun c => !decide (c.toNat < 128) || ascB (encL (IntKind.wrap .i32 (c.toNat : Int)))) (by decide +kernel) c
  rw [decide_eq_true h] at this
  simpa using this
theorem changedA {k : Int} {s : S_gatemake_Stream} (h : SB k s) (hk : k ≤ 1000000) (t v : Bs) (ht : t.length ≤ 100000) (hv : v.length ≤ 100000) (hta : ascB t = true) (hva : ascB v = true) :
    Ok (m_gatemake_Stream_Changed s t v) fun r => (ascB r.1 = true ∧ r.1.length ≤ 2 * t.length + v.length + 4) ∧ SB (k + 3) r.2 := by
  unfold m_gatemake_Stream_Changed
  refine ok_if (fun _ => ok_some ⟨⟨hva, by simp only; omega⟩, h.mono (by omega)⟩) (fun h0 => ?_)
  simp only [Bool.or_eq_true, decide_eq_true_eq, not_or] at h0
  have ht0 : 0 < t.length := by cases hq : t with | nil => exact absurd hq h0.1 | cons _ _ => simp
  have hv0 : 0 < v.length := by cases hq : v with | nil => exact absurd hq h0.2 | cons _ _ => simp
  refine ok_bind (next_ok h (by omega) _ (by omega)) fun r5 h5 => ok_bind (next_ok h5.2 (by omega) _ (by omega)) fun r7 h7 => ?_
  have b5 := h5.1.2.1 (by omega)
  have b7 := h7.1.2.1 (by omega)
  have c5 := h5.1.1
  have c7 := h7.1.1
  have hat : Ok (at? v r7.1) fun x => x ∈ v := by
    unfold at?
    rw [if_pos c7, List.getElem?_eq_getElem (by omega)]
    exact ⟨_, rfl, List.getElem_mem _⟩
  refine ok_bind hat fun x9 hx9 => ok_bind (next_ok h7.2 (by omega) 3 (by omega)) fun r11 h11 => ?_
  have he := enc_len x9
  have hea : ascB (encL (IntKind.wrap .i32 (x9.toNat : Int))) = true := enc_asc x9 (by
    have := List.all_eq_true.1 (show v.all (fun c => decide (c.toNat < 128)) = true from hva) x9 hx9
    simpa using this)
  have hw : wr (r5.1 + 1) = r5.1 + 1 := wr_id (by omega)
  have hS : SB (k + 3) r11.2 := h11.2.mono (by omega)
  rw [hw]
  refine ok_if (fun _ => ?_) (fun _ => ok_if (fun _ => ?_) (fun _ => ?_))
  · refine ok_bind (sub_okA t _ _ ⟨by omega, by omega, by omega⟩ hta) fun l14 h14 => ok_g (by have := h14.1; omega) (ok_bind (sub_okA t _ _ ⟨by omega, by omega, by omega⟩ hta) fun l17 h17 => ok_g (by have := h14.1; have := h17.1; simp; omega) (ok_some ⟨⟨?_, by have := h14.1; have := h17.1; simp; omega⟩, hS⟩))
    simp only
    rw [asc_app, asc_app, h14.2, h17.2, hea]; rfl
  · refine ok_bind (sub_okA t _ _ ⟨by omega, by omega, by omega⟩ hta) fun l14 h14 => ok_g (by have := h14.1; omega) (ok_bind (sub_okA t _ _ ⟨by omega, by omega, by omega⟩ hta) fun l17 h17 => ok_g (by have := h14.1; have := h17.1; simp; omega) (ok_some ⟨⟨?_, by have := h14.1; have := h17.1; simp; omega⟩, hS⟩))
    simp only
    rw [asc_app, asc_app, h14.2, h17.2, hea]; rfl
  · refine ok_bind (sub_okA t _ _ ⟨by omega, by omega, by omega⟩ hta) fun l14 h14 => ok_bind (sub_okA t _ _ ⟨by omega, by omega, by omega⟩ hta) fun l17 h17 => ok_g (by have := h14.1; have := h17.1; omega) (ok_some ⟨⟨?_, by have := h14.1; have := h17.1; simp; omega⟩, hS⟩)
    simp only
    rw [asc_app, h14.2, h17.2]; rfl
theorem cookieString_ok {k : Int} {s : S_gatemake_Stream} (h : SB k s) (hk : k ≤ 10000) : Ok (m_gatemake_Stream_CookieString s) fun r => (ascB r.1 = true ∧ r.1.length ≤ 50000) := by
  have hJ2 : ∀ (t : Bs) (c : List Int) (a : Int), (ascB t = true ∧ t.length ≤ 2000) → SB (k + 50) (S_gatemake_Stream.mk c a) → Ok (gatemake_Stream_CookieString_J2 t c a) fun r => (ascB r.1 = true ∧ r.1.length ≤ 50000) := by
    intro t c a hta hs
    unfold gatemake_Stream_CookieString_J2
    refine ok_bind (pick_ok hs (by omega) _ ⟨by simp, by simp⟩) fun r20 h20 => ?_
    have hr : 0 ≤ r20.1 ∧ r20.1 ≤ 1 := by
      have := h20.1
      simp only [List.mem_cons, List.not_mem_nil, or_false] at this
      omega
    refine ok_g (by omega) ?_
    refine ok_rng (fun j (q : Bs × List Int × Int) => j ≤ 1 ∧ (ascB q.1 = true ∧ q.1.length ≤ 2000 + 3000 * j) ∧ SB (k + 51 + 3 * (j : Int)) (S_gatemake_Stream.mk q.2.1 q.2.2)) _ 0 _ ⟨by omega, ⟨hta.1, by simpa using hta.2⟩, h20.2.mono (by omega)⟩ ?_ ?_
    · rintro j ⟨q1, q2, q3⟩ _ hj ⟨h0, h1, h2⟩
      simp only at h1 h2 ⊢
      unfold gatemake_Stream_CookieString_L3
      have hj0 : j = 0 := by omega
      subst hj0
      refine ok_bind (changedA h2 (by omega) q1 _ (by have := h1.2; omega) (by simp) h1.1 rfl) fun r29 h29 => ok_some ?_
      have e1 := h29.1.2
      have e2 := h1.2
      simp only [List.length_cons, List.length_nil] at e1
      exact ⟨by omega, ⟨h29.1.1, by show r29.1.length ≤ _; omega⟩, h29.2.mono (by omega)⟩
    · rintro ⟨q1, q2, q3⟩ ⟨h0, h1, h2⟩
      simp only at h1 h2 ⊢
      unfold gatemake_Stream_CookieString_E3
      exact ok_some ⟨h1.1, by have := h1.2; simp only; omega⟩
  have hJ1 : ∀ (t : Bs) (c : List Int) (a : Int), (ascB t = true ∧ t.length ≤ 2000) → SB (k + 30) (S_gatemake_Stream.mk c a) → Ok (gatemake_Stream_CookieString_J1 t c a) fun r => (ascB r.1 = true ∧ r.1.length ≤ 50000) := by
    intro t c a hta hs
    unfold gatemake_Stream_CookieString_J1
    refine ok_bind (flip_ok hs (by omega) 6 (by omega)) fun r12 h12 => ok_if (fun _ => ?_) (fun _ => hJ2 _ _ _ hta (h12.mono (by omega)))
    exact ok_bind (someA_ok h12 (by omega) 2000 _ ⟨by simp, by simp⟩ (by decide +kernel)) fun r15 h15 => hJ2 _ _ _ h15.1 (h15.2.mono (by omega))
  unfold m_gatemake_Stream_CookieString
  refine ok_bind (setCookie_ok h hk) fun r2 h2 => ?_
  obtain ⟨f, f1, _, _⟩ := text_same r2.1 (ckA_P h2.1)
  rw [f1, cookieLine_eq r2.1 (ckA_P h2.1)]
  simp only [Option.bind_some]
  exact ok_if (fun _ => hJ1 _ _ _ (text_A r2.1 h2.1) h2.2) (fun _ => hJ1 _ _ _ ⟨rfl, by simp⟩ h2.2)
theorem eqPr_self (l : List S_api_Pair) (h : l.length ≤ 1000000000) : m_slices_Equal_L_api_Pair_api_Pair_ l l = some true :=
  gEql_self (fun x7 x10 : S_api_Pair => !((x7.Name == x10.Name) && ((x7.Value == x10.Value) && true))) (fun x => by simp) l h
theorem cookiesRead_plain (L : List Int) : m_gatelaw2_CookiesRead L = some true := by
  refine ok_eq ?_
  unfold m_gatelaw2_CookiesRead
  refine ok_bind (cookieHeaders_ok (k := 0) ⟨by simp, by simp⟩ (by omega)) fun r2 h2 => ok_bind (setCookie_ok h2.2 (by omega)) fun r4 h4 => ok_bind (cookieString_ok h4.2 (by omega)) fun r6 h6 => ?_
  obtain ⟨a, a1, a2, a3⟩ := cookies_same r2.1 ⟨by have := h2.1.1; omega, fun y hy => (h2.1.2 y hy).1⟩ fun y hy => (h2.1.2 y hy).2
  obtain ⟨f, f1, f2, _⟩ := text_same r4.1 (ckA_P h4.1)
  obtain ⟨x, x1, x2⟩ := parse_same r6.1 h6.2 h6.1
  rw [a1, a2, f1, f2, cookieLine_eq r4.1 (ckA_P h4.1)]
  simp only [Option.bind_some]
  have hJ : ∀ (q : Bs × Int) (v : Bs), q.1 = v → q.2 = f → Ok (gatelaw2_CookiesRead_J1 r6 a a q f v) (· = true) := by
    intro q v hv hf
    unfold gatelaw2_CookiesRead_J1 gatelaw2_CookiesRead_J2
    rw [x1, x2]
    simp only [Option.bind_some]
    rw [eqPr_self a.1 (by omega), spoken_eq]
    simp only [Option.bind_some, hv, hf, beq_self_eq_true, Bool.and_self, decide_true, if_true]
    exact ⟨true, rfl, rfl⟩
  by_cases h0 : f = 0
  · rw [if_pos (by simpa using h0), if_pos h0]
    exact hJ _ _ rfl h0.symm
  · rw [if_neg (by simpa using h0), if_neg h0]
    exact hJ _ _ rfl rfl
end Go.Proofs.YthodoodnkohdaaaGreatDoor
