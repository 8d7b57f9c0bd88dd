/- Plain: the law RequestsNormal is true for every list of numbers. -/
import Derived.Test.YthgblfklceopgaaGreatDoorQyYn
import Derived.Test.YthgblfklceopgaaGreatDoorPtYn
import Derived.Test.YthgblfklceopgaaGreatDoorHaYn
import Derived.Test.YthgblfklceopgaaGreatDoorFwYn
import Derived.Test.YthgblfklceopgaaGreatDoorNhYn
import Derived.Test.YthgblfklceopgaaGreatDoorSrYn
namespace Go.Proofs.YthgblfklceopgaaGreatDoor
set_option linter.unusedVariables false
set_option maxRecDepth 20000
def qOK (q : Bs) : Prop := (spl 38 q).length ≤ 12 ∨ ((spl 38 q).filter fun x => !decide (x = [])).length = 101
theorem zwo {k : Int} {s : zad} (h : SB k s) (hk : k ≤ 1000000) (m : Nat) (hm : m ≤ 1000) (sep : Bs) (hsep : sep.length ≤ 10) (l : List Bs) (hl : l ≠ [] ∧ l.length ≤ 1000) (hB : ∀ x, x ∈ l → x.length ≤ 20) :
    Ok (zct s (m : Int) sep l) fun r => (∃ ws : List Bs, ws.length = m ∧ (∀ w, w ∈ ws → w ∈ l) ∧ r.1 = Lib.join ws sep ∧ r.1.length ≤ 30000) ∧ SB (k + m) r.2 := by
  unfold zct
  refine ok_g (by omega) ?_
  rw [Int.toNat_natCast]
  refine zw7 (fun j (q : List Int × Int × List Bs) => j ≤ m ∧ SB (k + (j : Int)) (zad.mk q.1 q.2.1) ∧ q.2.2.length = j ∧ ∀ x, x ∈ q.2.2 → x ∈ l) m 0 _ ⟨by omega, h.mono (by omega), by simp, by simp⟩ ?_ ?_
  · rintro j ⟨c5, c6, l7⟩ _ hj ⟨h0, h1, h2, h3⟩
    simp only at h1 h2 h3 ⊢
    unfold zgv
    refine zbd (zqk h1 (by omega) l hl) fun r hr => ok_g (by omega) (zbs ?_)
    refine ⟨by omega, hr.2.mono (by omega), by simp; omega, fun x hx => ?_⟩
    rcases List.mem_append.1 hx with h | h
    · exact h3 x h
    · have : x = r.1 := by simpa using h
      rw [this]; exact hr.1
  · rintro ⟨c5, c6, l7⟩ ⟨h0, h1, h2, h3⟩
    simp only at h1 h2 h3 ⊢
    have hj := zv8 20 sep l7 fun x hx => hB x (h3 x hx)
    have hmm : l7.length * (20 + sep.length) ≤ 1000 * 30 := Nat.mul_le_mul (by omega) (by omega)
    unfold zgw
    have hJ : zc5 l7 sep = some (Lib.join l7 sep) := by
      unfold zc5
      rw [if_pos ⟨by omega, by omega⟩]
    rw [hJ]
    exact zbs ⟨⟨l7, by omega, h3, rfl, by simp only; omega⟩, h1.mono (by omega)⟩
theorem z2l : ∀ l : List Bs, (∀ x, x ∈ l → (38 : UInt8) ∉ x) → (l.map (spl 38)).flatten = l
  | [], _ => rfl
  | x :: l, h => by
    rw [List.map_cons, List.flatten_cons, z1e 38 x (h x (by simp)), z2l l fun y hy => h y (List.mem_cons_of_mem _ hy)]; rfl
theorem zwx (ws : List Bs) (h : ∀ x, x ∈ ws → (38 : UInt8) ∉ x) (hn : ws ≠ []) : spl 38 (Lib.join ws [38]) = ws := by
  rw [zy9 38 ws hn, z2l ws h]
theorem zx9 {k : Int} {s : zad} (h : SB k s) (hk : k ≤ 1000) : Ok (zfl s) fun r => (r.1.length ≤ 30000 ∧ qOK r.1) ∧ SB (k + 200) r.2 := by
  unfold zfl zdk
  refine zbd (ztm h (by omega) 0 4 (by omega)) fun r hr => ?_
  obtain ⟨m, hm⟩ : ∃ m : Nat, r.1 = (m : Int) := ⟨r.1.toNat, by omega⟩
  rw [hm]
  refine zbd (zwo hr.2 (by omega) m (by omega) [38] (by simp) _ ⟨by simp, by simp⟩ (by decide)) fun r2 h2 => zbd (zqz h2.2 (by omega) 12 (by omega)) fun r3 h3 => zmf (fun _ => ?_) (fun _ => zbs ⟨?_, ?_⟩)
  · refine zbd (zwo h3 (by omega) 101 (by omega) [38] (by simp) [[120]] ⟨by simp, by simp⟩ (by decide)) fun r4 h4 => zbd (zqk h4.2 (by omega) _ ⟨by simp, by simp⟩) fun r5 h5 => zbs ⟨?_, ?_⟩
    · obtain ⟨⟨ws, w1, w2, w3, w4⟩, _⟩ := h4
      have hx : ∀ w, w ∈ ws → w = [120] := fun w hw => by simpa using w2 w hw
      have hq4 : qOK r4.1 := by
        right
        rw [w3, zwx ws (fun x hx' => by rw [hx x hx']; decide) (by rintro rfl; simp at w1)]
        have : (ws.filter fun x => !decide (x = [])) = ws := List.filter_eq_self.2 fun w hw => by rw [hx w hw]; rfl
        rw [this]; exact w1
      have hm := h5.1
      simp only [List.mem_cons, List.not_mem_nil, or_false] at hm
      rcases hm with e | e | e | e | e | e <;> rw [e] <;> first | exact ⟨w4, hq4⟩ | exact ⟨by decide, .inl (by decide)⟩
    · exact h5.2.mono (by omega)
  · obtain ⟨⟨ws, w1, w2, w3, w4⟩, _⟩ := h2
    refine ⟨w4, .inl ?_⟩
    rw [w3]
    by_cases hn : ws = []
    · subst hn; decide
    · have hno : ∀ w : Bs, w ∈ ([[97, 61, 49], [98, 61, 50], [97, 61], [61, 120], [61], [99], [], [97, 61, 37, 52, 49, 43, 37, 50, 66], [100, 61, 120, 37, 50, 54, 121], [98, 61, 37, 99, 51], [97, 61, 49, 61, 50], [97, 63, 98, 61, 47]] : List Bs) → (38 : UInt8) ∉ w := by decide
      rw [zwx ws (fun x hx => hno x (w2 x hx)) hn, w1]; omega
  · exact h3.mono (by omega)
theorem zuu {k : Int} {s : zad} (h : SB k s) (hk : k ≤ 5000) : Ok (zd0 s) fun r => (rqP r.1 ∧ qOK r.1.Query) ∧ SB (k + 50) r.2 := by
  unfold zd0 zcx
  refine zbd (zya h (by omega) _ ⟨by simp, by simp⟩) fun r2 h2 => zbd (zoo h2.2 (by omega) 100 _ ⟨by simp, by simp⟩ (by simp)) fun r4 h4 => zbd (zw2 h4.2 (by omega)) fun r6 h6 => zbd (zoo h6.2 (by omega) 100 _ ⟨by simp, by simp⟩ (by simp)) fun r8 h8 => zbd (zqk h8.2 (by omega) _ ⟨by simp, by simp⟩) fun r10 h10 => zbd (zoo h10.2 (by omega) 100 _ ⟨by simp, by simp⟩ (by simp)) fun r12 h12 => zbd (zql h12.2 (by omega) 4 (by omega)) fun r14 h14 => zbd (zqz h14.2 (by omega) 4 (by omega)) fun r16 h16 => ?_
  have a1 := h4.1
  have a2 := h8.1
  have a4 := h12.1
  have a3 : r10.1.length ≤ 100 ∧ qOK r10.1 := by
    have hm := h10.1
    simp only [List.mem_cons, List.not_mem_nil, or_false] at hm
    rcases hm with e | e | e | e <;> rw [e] <;> exact ⟨by decide, .inl (by decide)⟩
  have hq : ∀ b : Bs, rqP (zar.mk r2.1 r4.1 r6.1 r8.1 r10.1 r12.1 r14.1 b) ∧ qOK (zar.mk r2.1 r4.1 r6.1 r8.1 r10.1 r12.1 r14.1 b).Query := fun b => ⟨⟨by simp only; omega, h6.1, by simp only; omega, by simp only; omega, by simp only; omega, by have := h14.1.1; simp only; omega, h14.1.2⟩, a3.2⟩
  refine zmf (fun _ => ?_) (fun _ => zbs ⟨hq _, h16.mono (by omega)⟩)
  refine zbd (zq5 _ _ ⟨by omega, by omega, by simp⟩) fun r19 _ => zbd (zqk h16 (by omega) _ ⟨by simp, by simp⟩) fun r21 h21 => zbs ⟨hq _, h21.2.mono (by omega)⟩
theorem z1o {k : Int} {s : zad} (h : SB k s) (hk : k ≤ 900) : Ok (zf8 s) fun r => (rqP r.1 ∧ qOK r.1.Query) ∧ SB (k + 300) r.2 := by
  unfold zf8 zbg
  refine zbd (zuu h (by omega)) fun r2 h2 => zbd (zqz h2.2 (by omega) 6 (by omega)) fun r4 h4 => ?_
  obtain ⟨⟨⟨p1, p2, p3, p4, p5, p6⟩, pq⟩, _⟩ := h2
  refine zmf (fun _ => ?_) (fun _ => zbs ⟨⟨⟨p1, p2, p3, p4, p5, p6⟩, pq⟩, h4.mono (by omega)⟩)
  refine zbd (zqn h4 (by omega) 8 (by omega)) fun r7 h7 => ?_
  refine zmf (fun _ => zbd (z8g h7.2 (by omega) 0 1000 (by omega)) fun r h => zbs ⟨⟨⟨p1, p2, p3, p4, p5, p6⟩, pq⟩, h.2.mono (by omega)⟩) (fun _ => ?_)
  refine zmf (fun _ => zbd (zqg h7.2 (by omega)) fun r h => zbs ⟨⟨⟨by have := h.1; simp only; omega, p2, p3, p4, p5, p6⟩, pq⟩, h.2.mono (by omega)⟩) (fun _ => ?_)
  refine zmf (fun _ => zbd (zyn h7.2 (by omega)) fun r h => zbs ⟨⟨⟨p1, h.1, p3, p4, p5, p6⟩, pq⟩, h.2.mono (by omega)⟩) (fun _ => ?_)
  refine zmf (fun _ => zbd (zyb h7.2 (by omega)) fun r h => zbs ⟨⟨⟨p1, p2, h.1, p4, p5, p6⟩, pq⟩, h.2.mono (by omega)⟩) (fun _ => ?_)
  refine zmf (fun _ => zbd (zx9 h7.2 (by omega)) fun r h => zbs ⟨⟨⟨p1, p2, p3, by have := h.1.1; simp only; omega, p5, p6⟩, h.1.2⟩, h.2.mono (by omega)⟩) (fun _ => ?_)
  refine zmf (fun _ => zbd (zq0 h7.2 (by omega)) fun r h => zbs ⟨⟨⟨p1, p2, p3, p4, by have := h.1; simp only; omega, p6⟩, pq⟩, h.2.mono (by omega)⟩) (fun _ => ?_)
  refine zmf (fun _ => zbd (zu9 h7.2 (by omega) 4 (by omega)) fun r h => zbs ⟨⟨⟨p1, p2, p3, p4, p5, h.1⟩, pq⟩, h.2.mono (by omega)⟩) (fun _ => ?_)
  refine zbd (zya h7.2 (by omega) _ ⟨by simp, by simp⟩) fun r h => ?_
  have hm := h.1
  simp only [List.mem_cons, List.not_mem_nil, or_false] at hm
  exact zbd (zq5 _ _ ⟨by omega, by omega, by simp⟩) fun r32 _ => zbs ⟨⟨⟨p1, p2, p3, p4, p5, p6⟩, pq⟩, h.2.mono (by omega)⟩
theorem z6y (x : Bs) : (prQ x).Name.length ≤ x.length ∧ (prQ x).Value.length ≤ x.length := by
  obtain ⟨c1, c2⟩ := zwg x
  have hd : ∀ s : Bs, ((dec true s).getD []).length ≤ s.length := fun s => by
    cases hs : dec true s with
    | none => simp
    | some d => exact z7r true s.length s d (Nat.le_refl _) hs
  have h1 := hd (Lib.cut x [61]).1
  have h2 := hd (Lib.cut x [61]).2.1
  unfold prQ
  simp only
  omega
theorem z6x {s : Bs} (h : qOK s) (hl : (prs (spl 38 s)).length ≤ 100) : (prs (spl 38 s)).length ≤ 12 := by
  unfold prs at hl ⊢
  rw [List.length_map] at hl ⊢
  rcases h with h | h
  · exact Nat.le_trans (List.length_filter_le _ _) h
  · exact absurd (Nat.le_trans (Nat.le_of_eq h.symm) hl) (by decide)
theorem z6w {s : Bs} (hs : s.length ≤ 1000) : ∀ p, p ∈ prs (spl 38 s) → p.Name.length ≤ 1000 ∧ p.Value.length ≤ 1000 := fun p hp => by
  unfold prs at hp
  obtain ⟨x, hx, rfl⟩ := List.mem_map.1 hp
  have h1 := zqj 38 s x (List.mem_filter.1 hx).1
  have h2 := z6y x
  omega
def nilP (p : zag) : Bool := (p.Name == []) && ((p.Value == []) && true)
theorem z4v (l : List zag) (hl : l.length ≤ 1000) (hp : ∀ p, p ∈ l → p.Name.length ≤ 1000 ∧ p.Value.length ≤ 1000) :
    zbw l (fun (a0 : zag) => zj2 a0) = some (l.filter fun p => !nilP p) ∧
    zbw l (fun (a0 : zag) => zfj a0) = some (l.filter fun p => !nilP p) := by
  refine ⟨zwb (zag.mk [] []) l nilP (by omega) fun p _ => rfl, zwb (zag.mk [] []) l nilP (by omega) fun p h => ?_⟩
  have := hp p h
  show zfj p = some (nilP p)
  unfold zfj nilP
  rw [if_pos (by omega)]
  rcases p with ⟨a, b⟩
  cases a <;> cases b <;> rfl
theorem z41 : (fun (a0 : zag) (a1 : zag) => zgo a0 a1) = fun (a0 : zag) (a1 : zag) => zbz a0 a1 := rfl
theorem z40 (a b : zag) : ∃ c, zbz a b = some c := by
  unfold zbz zje
  split
  · exact ⟨_, rfl⟩
  · exact ⟨_, rfl⟩
theorem z7c : (List.range 13).all (fun n => (zll (IntKind.wrap .u64 (n : Int))).isSome) = true := by decide +kernel
theorem lenN (n : Nat) (h : n ≤ 12) : ∃ v, zll (IntKind.wrap .u64 (n : Int)) = some v := by
  have h2 := List.all_eq_true.1 z7c n (by simp; omega)
  exact Option.isSome_iff_exists.1 h2
theorem z1g (l : List zag) (hl : l.length ≤ 12) : ∃ r : List zag, r.Perm l ∧ zcn l (fun (a0 : zag) (a1 : zag) => zbz a0 a1) = some r ∧
    zb2 l (fun (a0 : zag) (a1 : zag) => zgo a0 a1) = some r := by
  obtain ⟨r, r1, r2, r3⟩ := z4q (p := fun (a0 : zag) (a1 : zag) => zbz a0 a1) (q := fun (a0 : zag) (a1 : zag) => zbz a0 a1) (f := fun x : zag => x) l (by omega)
    (List.pairwise_of_forall (fun y x => by
      obtain ⟨c, hc⟩ := z40 x y
      exact ⟨c, c, hc, hc, Iff.rfl⟩))
  have hlen := r1.length_eq
  obtain ⟨v, hv⟩ := lenN l.length hl
  refine ⟨r, r1, ?_, ?_⟩
  · unfold zcn
    rw [hv]
    simp only [Option.bind_some]
    have e : zeu l 0 (l.length : Int) v (fun (a0 : zag) (a1 : zag) => zbz a0 a1) = some r := z7i l r _ v hl r2 hlen
    rw [e]
    simp only [Option.bind_some]
    rw [if_pos hlen]
  · rw [z41]
    unfold zb2
    have e : zfa l (l.length : Int) (fun (a0 : zag) (a1 : zag) => zbz a0 a1) = some r := z4p l r _ (by omega) r2 hlen
    rw [e]
    simp only [Option.bind_some]
    rw [if_pos hlen]
def lwH (h : zaf) : zaf := zaf.mk (lo h.Name) h.Value
theorem zzl {s : Bs} (h : ascB s = true ∧ s.length ≤ 100000) : zda s = some (lo s) := by
  unfold zda
  rw [if_pos ⟨by omega, h.1⟩]
theorem lowP {ρ : Type} (E : List zaf → Option (zar × Int)) : ∀ (l pre : List zaf), (∀ x, x ∈ l → nmOK x) → rng (fun (k : Nat) (s : (List zaf)) => zh3 k s) E l.length pre.length (pre ++ l) = E (pre ++ l.map lwH)
  | [], pre, _ => rfl
  | x :: l, pre, h => by
    have e1 : (pre ++ x :: l)[pre.length]? = some x := by simp
    have e2 : (pre ++ x :: l).set pre.length (zaf.mk (lo x.Name) x.Value) = (pre ++ [lwH x]) ++ l := by simp [lwH]
    have e3 : pre.length + 1 = (pre ++ [lwH x]).length := by simp
    have e4 : zh3 pre.length (pre ++ x :: l) = some (.inl ((pre ++ [lwH x]) ++ l)) := by
      unfold zh3
      rw [e1]
      simp only [Option.bind_some]
      rw [zzl (h x (by simp))]
      simp only [Option.bind_some]
      rw [e2]
    show (zh3 pre.length (pre ++ x :: l)).bind _ = _
    rw [e4]
    simp only [Option.bind_some, after]
    rw [e3, lowP (ρ := ρ) E l (pre ++ [lwH x]) fun y hy => h y (List.mem_cons_of_mem _ hy)]
    simp
theorem lowR (E : List zaf → Option (zar × Int)) : ∀ (l : List zaf) (k : Nat) (q : List zaf), (∀ x, x ∈ l → nmOK x) → q.length + l.length ≤ 1000000 → forL (fun (k : Nat) (x : zaf) (s : (List zaf)) => zf0 k x s) E k l q = E (q ++ l.map lwH)
  | [], k, q, _, _ => by simp [forL]
  | x :: l, k, q, h, hq => by
    simp only [List.length_cons] at hq
    have e4 : zf0 k x q = some (.inl (q ++ [lwH x])) := by
      unfold zf0
      rw [zzl (h x (by simp))]
      simp only [Option.bind_some]
      rw [if_pos (by omega)]; rfl
    show (zf0 k x q).bind _ = _
    rw [e4]
    simp only [Option.bind_some, after]
    rw [lowR E l (k + 1) _ (fun y hy => h y (List.mem_cons_of_mem _ hy)) (by simp; omega)]
    simp
theorem z6u (r : zar) (h : rqP r) (e1 : zc4 r = some 0) : tokB r.Method = true := by
  obtain ⟨p1, p2, p3, p4, p5, p6⟩ := h
  obtain ⟨b, q, c1, c2, c3⟩ := zum p2
  unfold zc4 zcf at e1
  rw [zrt, zpb _ (by omega)] at e1
  simp only [Option.bind_some] at e1
  cases hm : momP r.At
  · rw [hm] at e1; simp at e1
  · cases ht : tokB r.Method
    · rw [hm, ht] at e1; simp at e1
    · rfl
theorem zyh (r : zar) (hr : rqP r) (hq : qOK r.Query) : ∃ x, zk4 r = some x ∧ zjm r = some x ∧ x.1.Headers.length ≤ 1000000000 := by
  obtain ⟨e, e1, e2, e3⟩ := zw3 r hr
  obtain ⟨p1, p2, p3, p4, p5, p6⟩ := id hr
  unfold zk4 zjm
  rw [e1, e2]
  simp only [Option.bind_some]
  by_cases h0 : e = 0
  · subst h0
    obtain ⟨h1, h2, hH⟩ := e3 rfl
    obtain ⟨hvp, hasc⟩ := z2e h1
    have hl := hvp.1
    have htok := z6u r hr e1
    obtain ⟨g, g1, g2⟩ := z0j p2
    obtain ⟨b1, b2⟩ := z6z r.Path (by omega)
    obtain ⟨c, c1, c2, c3, c4⟩ := z4e r.Query (by omega)
    rw [g1, g2, b1, b2, c1, c2]
    simp only [Option.bind_some, ne_eq, not_true_eq_false, decide_false, Bool.false_eq_true, if_false]
    by_cases k1 : (npF r.Path).2 = 0
    · have j1 : (decide ¬(npF r.Path).2 = 0) = false := by simpa using k1
      simp only [j1, Bool.false_eq_true, if_false]
      by_cases k2 : c.2 = 0
      · obtain ⟨c5, c6, c7⟩ := c4 k2
        have j2 : (decide ¬c.2 = 0) = false := by simpa using k2
        simp only [j2, Bool.false_eq_true, if_false]
        have hmem := z6w c7
        rw [← c5] at hmem
        have hfew : c.1.length ≤ 12 := by rw [c5]; exact z6x hq (by rw [← c5]; exact c6)
        obtain ⟨d1, d2⟩ := z4v c.1 (by omega) hmem
        rw [d1, d2]
        simp only [Option.bind_some]
        obtain ⟨s, s1, s2, s3⟩ := z1g (c.1.filter fun p => !nilP p) (by have := List.length_filter_le (fun p => !nilP p) c.1; omega)
        rw [s2, s3]
        simp only [Option.bind_some]
        rw [if_pos s1.length_eq, if_pos s1.length_eq]
        have hsl : s.length ≤ 12 := by rw [s1.length_eq]; have := List.length_filter_le (fun p => !nilP p) c.1; omega
        have hsm : ∀ p, p ∈ s → p.Name.length ≤ 1000 ∧ p.Value.length ≤ 1000 := fun p hp => hmem p (List.mem_filter.1 (s1.mem_iff.1 hp)).1
        obtain ⟨t, t1, t2⟩ := z6f s (by omega) hsm
        rw [t1, t2]
        simp only [Option.bind_some]
        by_cases k3 : t.2 = 0
        · have j3 : (decide ¬t.2 = 0) = false := by simpa using k3
          simp only [j3, Bool.false_eq_true, if_false]
          have hup : zjd r.Method = some (Lib.toUpperA r.Method) := by
            unfold zjd
            rw [if_pos ⟨by omega, zxs htok⟩]
          have hcl : zee r.Headers = some r.Headers := by unfold zee; rw [if_pos (by omega)]
          rw [hup, hcl]
          simp only [Option.bind_some]
          have hP := lowP (ρ := Unit) (fun (s : (List zaf)) => zlu r g (npF r.Path) t (Lib.toUpperA r.Method) s) r.Headers [] (zuk hvp)
          have hR := lowR (fun (s : (List zaf)) => zkc r g (npF r.Path) t (Lib.toUpperA r.Method) s) r.Headers 0 [] (zuk hvp) (by simp only [List.length_nil]; omega)
          rw [if_pos (by omega), if_pos (by omega), hR]
          refine ⟨_, hP, rfl, ?_⟩
          simp; omega
        · have j3 : (decide ¬t.2 = 0) = true := by simpa using k3
          simp only [j3, if_true]
          exact ⟨_, rfl, rfl, by simp⟩
      · have j2 : (decide ¬c.2 = 0) = true := by simpa using k2
        simp only [j2, if_true]
        exact ⟨_, rfl, rfl, by simp⟩
    · have j1 : (decide ¬(npF r.Path).2 = 0) = true := by simpa using k1
      simp only [j1, if_true]
      exact ⟨_, rfl, rfl, by simp⟩
  · rw [if_pos (by simpa using h0), if_pos (by simpa using h0)]
    exact ⟨_, rfl, rfl, by simp⟩
theorem z9b (b : Bool) (e : Int) : zkl b e = some (if b then e else 0) := by unfold zkl; cases b <;> rfl
theorem z9c (a b : Int) : zkn [a, b] = some (if a ≠ 0 then a else b) := by
  unfold zkn
  rw [if_pos (by simp)]
  show (zi5 0 a).bind _ = _
  unfold zi5
  by_cases h : a = 0
  · rw [if_neg (by simpa using h), if_neg (by simpa using h)]
    show (zi5 1 b).bind _ = _
    unfold zi5
    by_cases h : b = 0
    · rw [if_neg (by simpa using h), h]; rfl
    · rw [if_pos (by simpa using h)]; rfl
  · rw [if_pos (by simpa using h), if_pos (by simpa using h)]; rfl
theorem z2p (l : List Bs) (h : l.length ≤ 1000000000) : zfq l l = some true :=
  zxg (fun x7 x10 : Bs => decide (x7 ≠ x10)) (fun x => by simp) l h
theorem z14 (V : List Bs) (S W : List zaf) (a b : Int) (hV : V.length ≤ 1000) (hS : S.length ≤ 1000) (hW : W.length ≤ 1000) : zcp (V, a) (S, b) (W, a) a V W b S = some true := by
  unfold zcp zbq
  simp only [decide_true, if_true]
  rw [z2p V (by omega), zwd S (by omega), zwd W (by omega), z1d]
  rfl
theorem z9d (r4 : (List zaf) × zad) (r6 r8 : Bs × zad) (h4 : hdsP r4.1) (h6 : r6.1.length ≤ 100000) (h8 : r8.1.length ≤ 100000) : zc9 r4 r6 r8 false = some true := by
  have hh := zsu r4.1 h4
  unfold zc9 zn5 zn4 zl8 zh6
  rw [hh.1, hh.2, zpb _ (by omega), zvn _ (by omega), zwc, zpd _ (by omega)]
  simp only [Option.bind_some, Bool.false_eq_true, if_false, z9b, z9c]
  by_cases g0 : hdsE r4.1 = 0
  · rw [g0]
    simp only [ne_eq, not_true_eq_false, decide_false, Bool.false_eq_true, if_false]
    cases ht : tokB r6.1
    · simp [zcq]
      exact z14 [] [] [] 5 5 (by simp) (by simp) (by simp)
    · have hvp : hvP 50 2000 r4.1 := (z2e (r := zar.mk 0 [] [] [] [] [] r4.1 []) g0).1
      have hl := hvp.1
      have hn : ascB r6.1 = true ∧ r6.1.length ≤ 100000 := ⟨zxs ht, by omega⟩
      obtain ⟨v1, v2⟩ := z0t r4.1 r6.1 (by omega) (zuk hvp) hn
      have w1 := zz2 r4.1 r6.1 (by omega) (zuk hvp) hn.1
      have w2 := zr4 r4.1 r6.1 (by omega) (zuk hvp) hn
      have s1 := z8c r4.1 r6.1 r8.1 (by omega) (zuk hvp) hn.1
      have s2 := z36 r4.1 r6.1 r8.1 (by omega) (zuk hvp) hn
      have hvl : (zur r6.1 r4.1).length ≤ 1000 := by unfold zur; rw [List.length_map]; have := List.length_filter_le (nmB r6.1) r4.1; omega
      have hwl : (r4.1.filter fun x => !nmB r6.1 x).length ≤ 1000 := by have := List.length_filter_le (fun x => !nmB r6.1 x) r4.1; omega
      rw [v1, v2, w1, w2, s1]
      simp only [Option.bind_some, Bool.not_true, Bool.false_eq_true, if_false, not_true_eq_false, decide_false, decide_true, if_true]
      unfold zcq
      cases hf : fldB r8.1
      · simp
        exact z14 _ [] _ 0 3 hvl (by simp) hwl
      · rw [s2]
        simp only [Option.bind_some, Bool.not_true, Bool.false_eq_true, if_false, decide_true, if_true]
        by_cases hb : 50 < ((stB r6.1 r8.1 r4.1).length : Int)
        · rw [if_pos (by simpa using hb)]
          simp only [Option.bind_some]
          rw [if_pos (by simpa using hb)]
          exact z14 _ [] _ 0 2 hvl (by simp) hwl
        · rw [if_neg (by simpa using hb)]
          simp only [Option.bind_some]
          rw [if_neg (by simpa using hb)]
          exact z14 _ _ _ 0 0 hvl (by omega) hwl
  · simp [g0, zcq]
    exact z14 [] [] [] _ _ (by simp) (by simp) (by simp)
theorem zq9 (L : List Int) : zij L = some true := by
  refine z8f ?_
  unfold zij
  refine zbd (z1o (k := 0) ⟨by simp, by simp⟩ (by omega)) fun r2 h2 => zbd (zu9 h2.2 (by omega) 5 (by omega)) fun r4 h4 => zbd (zqg h4.2 (by omega)) fun r6 h6 => zbd (zq0 h6.2 (by omega)) fun r8 h8 => ?_
  obtain ⟨x, x1, x2, x3⟩ := zyh r2.1 h2.1.1 h2.1.2
  rw [x1, x2]
  simp only [Option.bind_some, ne_eq, not_true_eq_false, decide_false, Bool.false_eq_true, if_false]
  rw [z1l _ x3]
  simp only [Option.bind_some, Bool.not_true]
  rw [z9d r4 r6 r8 h4.1 (by have := h6.1; omega) (by have := h8.1; omega)]
  exact ⟨true, rfl, rfl⟩
end Go.Proofs.YthgblfklceopgaaGreatDoor
