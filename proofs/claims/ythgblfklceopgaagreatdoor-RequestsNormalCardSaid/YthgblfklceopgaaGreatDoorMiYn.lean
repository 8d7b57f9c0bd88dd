/- Plain: streams of headers, requests and responses. -/
import Derived.Test.YthgblfklceopgaaGreatDoorMhYn
namespace Go.Proofs.YthgblfklceopgaaGreatDoor
set_option linter.unusedVariables false
set_option maxRecDepth 20000
theorem zoo {k : Int} {s : zad} (h : SB k s) (hk : k ≤ 100000000) (B : Nat) (l : List Bs) (hl : l ≠ [] ∧ l.length ≤ 1000) (hB : ∀ x, x ∈ l → x.length ≤ B) : Ok (za6 s l) fun r => r.1.length ≤ B ∧ SB (k + 1) r.2 :=
  z61 (zqk h hk l hl) fun r hr => ⟨hB _ hr.1, hr.2⟩
theorem zq5 (s : Bs) (n : Int) (h : 0 ≤ n ∧ n ≤ 1000000 ∧ s.length ≤ 1000000) : Ok (zd6 s n) fun r => r = Lib.repeatL s n.toNat := by
  unfold zd6
  rw [if_pos h]
  exact zbs rfl
theorem z7p (c : UInt8) : (encL (IntKind.wrap .i32 (c.toNat : Int))).length ≤ 4 := by
  have := zn9 (fun c => decide ((encL (IntKind.wrap .i32 (c.toNat : Int))).length ≤ 4)) (by decide +kernel) c
  exact of_decide_eq_true this
theorem zu3 (l : Bs) (a b : Int) (h : 0 ≤ a ∧ a ≤ b ∧ b ≤ (l.length : Int)) : Ok (sub? l a b) fun r => r.length ≤ l.length := by
  unfold sub?
  rw [if_pos h]
  exact zbs (by simp; omega)
theorem z0n {k : Int} {s : zad} (h : SB k s) (hk : k ≤ 1000000) (t v : Bs) (ht : t.length ≤ 100000) (hv : v.length ≤ 100000) :
    Ok (zf9 s t v) fun r => r.1.length ≤ 2 * t.length + v.length + 4 ∧ SB (k + 3) r.2 := by
  unfold zf9
  refine zmf (fun _ => zbs ⟨by simp only; omega, h.mono (by omega)⟩) (fun h0 => ?_)
  simp only [Bool.or_eq_true, decide_eq_true_eq, not_or] at h0
  have ht0 : 0 < t.length := by cases hq : t with | nil => exact absurd hq h0.1 | cons _ _ => simp
  have hv0 : 0 < v.length := by cases hq : v with | nil => exact absurd hq h0.2 | cons _ _ => simp
  refine zbd (zqn h (by omega) _ (by omega)) fun r5 h5 => zbd (zqn h5.2 (by omega) _ (by omega)) fun r7 h7 => ?_
  have b5 := h5.1.2.1 (by omega)
  have b7 := h7.1.2.1 (by omega)
  have c5 := h5.1.1
  have c7 := h7.1.1
  have hat : Ok (at? v r7.1) fun _ => True := by
    unfold at?
    rw [if_pos c7, List.getElem?_eq_getElem (by omega)]
    exact ⟨_, rfl, trivial⟩
  refine zbd hat fun x9 _ => zbd (zqn h7.2 (by omega) 3 (by omega)) fun r11 h11 => ?_
  have he := z7p x9
  have hw : wr (r5.1 + 1) = r5.1 + 1 := zlh (by omega)
  have hS : SB (k + 3) r11.2 := h11.2.mono (by omega)
  rw [hw]
  refine zmf (fun _ => ?_) (fun _ => zmf (fun _ => ?_) (fun _ => ?_))
  · refine zbd (zu3 t _ _ ⟨by omega, by omega, by omega⟩) fun l14 h14 => ok_g (by omega) (zbd (zu3 t _ _ ⟨by omega, by omega, by omega⟩) fun l17 h17 => ok_g (by simp; omega) (zbs ⟨by simp; omega, hS⟩))
  · refine zbd (zu3 t _ _ ⟨by omega, by omega, by omega⟩) fun l14 h14 => ok_g (by omega) (zbd (zu3 t _ _ ⟨by omega, by omega, by omega⟩) fun l17 h17 => ok_g (by simp; omega) (zbs ⟨by simp; omega, hS⟩))
  · refine zbd (zu3 t _ _ ⟨by omega, by omega, by omega⟩) fun l14 h14 => zbd (zu3 t _ _ ⟨by omega, by omega, by omega⟩) fun l17 h17 => ok_g (by omega) (zbs ⟨by simp; omega, hS⟩)
theorem zyb {k : Int} {s : zad} (h : SB k s) (hk : k ≤ 1000) : Ok (zfu s) fun r => r.1.length ≤ 100000 ∧ SB (k + 30) r.2 := by
  have hJ : ∀ (p : Bs) (c : List Int) (a : Int), p.length ≤ 40000 → SB (k + 20) (zad.mk c a) → Ok (zc2 p c a) fun r => r.1.length ≤ 100000 ∧ SB (k + 30) r.2 := by
    intro p c a hp hs
    unfold zc2 zdu
    refine zbd (zqz hs (by omega) 12 (by omega)) fun r hr => zmf (fun _ => ?_) (fun _ => zbs ⟨by simp only; omega, hr.mono (by omega)⟩)
    refine zbd (z0n hr (by omega) p _ (by omega) (by simp)) fun r2 h2 => zbs ⟨?_, h2.2.mono (by omega)⟩
    have := h2.1
    simp only [List.length_cons, List.length_nil] at this
    simp only
    omega
  unfold zfu
  refine zbd (ztm h (by omega) 0 4 (by omega)) fun r hr => ?_
  obtain ⟨m, hm⟩ : ∃ m : Nat, r.1 = (m : Int) := ⟨r.1.toNat, by omega⟩
  rw [hm]
  refine zbd (z3b hr.2 (by omega) m (by omega) [47] (by simp) _ ⟨by simp, by simp⟩ (by decide)) fun r2 h2 => ok_g (by simp; omega) (zbd (zqz h2.2 (by omega) 12 (by omega)) fun r3 h3 => zmf (fun _ => ?_) (fun _ => ?_))
  · refine zbd (zq5 _ _ ⟨by omega, by omega, by simp⟩) fun r4 h4 => ?_
    have hl : r4.length = 1020 := by rw [h4]; decide +kernel
    refine ok_g (by simp; omega) (zbd (zoo h3 (by omega) 2000 _ ⟨by simp, by simp⟩ (by simp [hl])) fun r5 h5 => ?_)
    exact hJ _ _ _ (by have := h5.1; omega) (h5.2.mono (by omega))
  · exact hJ _ _ _ (by have := h2.1; simp; omega) (h3.mono (by omega))
theorem zqg {k : Int} {s : zad} (h : SB k s) (hk : k ≤ 100000) : Ok (zc0 s) fun r => r.1.length ≤ 2500 ∧ SB (k + 1) r.2 := by
  unfold zc0
  refine zbd (zq5 _ _ ⟨by omega, by omega, by simp⟩) fun r4 h4 => ?_
  have hl : r4.length = 101 := by rw [h4]; decide +kernel
  exact zbd (zoo h (by omega) 2500 _ ⟨by simp, by simp⟩ (by simp [hl])) fun r5 h5 => zbs h5
theorem zq0 {k : Int} {s : zad} (h : SB k s) (hk : k ≤ 100000) : Ok (zc1 s) fun r => r.1.length ≤ 2500 ∧ SB (k + 1) r.2 := by
  unfold zc1
  refine zbd (zq5 _ _ ⟨by omega, by omega, by simp⟩) fun r4 h4 => ?_
  have hl : r4.length = 2001 := by rw [h4]; decide +kernel
  exact zbd (zoo h (by omega) 2500 _ ⟨by simp, by simp⟩ (by simp [hl])) fun r5 h5 => zbs h5
theorem zyo {l : List zaf} {x : zaf} (h : ∀ y, y ∈ l → hdP y) (hx : hdP x) : ∀ y, y ∈ l ++ [x] → hdP y := by
  intro y hy
  rcases List.mem_append.1 hy with hy | hy
  · exact h y hy
  · rw [List.mem_singleton.1 hy]; exact hx
theorem zql {k : Int} {s : zad} (h : SB k s) (hk : k ≤ 10000) (most : Int) (hm : 0 ≤ most ∧ most ≤ 10) :
    Ok (zb4 s most) fun r => (r.1.length ≤ 10 ∧ ∀ y, y ∈ r.1 → hdP y) ∧ SB (k + 30) r.2 := by
  unfold zb4
  refine zbd (ztm h (by omega) 0 most (by omega)) fun r hr => ?_
  obtain ⟨m, hm⟩ : ∃ m : Nat, r.1 = (m : Int) := ⟨r.1.toNat, by omega⟩
  rw [hm, Int.toNat_natCast]
  refine ok_g (by omega) ?_
  refine zw7 (fun j (q : List Int × Int × List zaf) => j ≤ m ∧ SB (k + 1 + 2 * (j : Int)) (zad.mk q.1 q.2.1) ∧ q.2.2.length ≤ j ∧ ∀ y, y ∈ q.2.2 → hdP y) m 0 _ ⟨by omega, hr.2.mono (by omega), by simp, by simp⟩ ?_ ?_
  · rintro j ⟨c5, c6, l7⟩ _ hj ⟨h0, h1, h2, h3⟩
    simp only at h1 h2 h3 ⊢
    unfold zcy
    refine zbd (zoo h1 (by omega) 100 _ ⟨by simp, by simp⟩ (by simp)) fun r1 hr1 => zbd (zoo hr1.2 (by omega) 100 _ ⟨by simp, by simp⟩ (by simp)) fun r2 hr2 => ok_g (by omega) (zbs ?_)
    exact ⟨by omega, hr2.2.mono (by omega), by simp; omega, zyo h3 ⟨by have := hr1.1; simp only; omega, by have := hr2.1; simp only; omega⟩⟩
  · rintro ⟨c5, c6, l7⟩ ⟨h0, h1, h2, h3⟩
    simp only at h1 h2 h3 ⊢
    unfold zcz
    exact zbs ⟨⟨by simp only; omega, h3⟩, h1.mono (by omega)⟩
theorem zu9 {k : Int} {s : zad} (h : SB k s) (hk : k ≤ 10000) (most : Int) (hm : 0 ≤ most ∧ most ≤ 10) :
    Ok (zeg s most) fun r => hdsP r.1 ∧ SB (k + 40) r.2 := by
  have hJ2 : ∀ (l : List zaf) (c : List Int) (a : Int), hdsP l → SB (k + 40) (zad.mk c a) → Ok (zc7 l c a) fun r => hdsP r.1 ∧ SB (k + 40) r.2 := by
    intro l c a hl hs
    unfold zc7
    exact zbs ⟨hl, hs⟩
  have hJ : ∀ (l : List zaf) (c : List Int) (a : Int), l.length ≤ 11 ∧ (∀ y, y ∈ l → hdP y) → SB (k + 39) (zad.mk c a) → Ok (zc8 l c a) fun r => hdsP r.1 ∧ SB (k + 40) r.2 := by
    intro l c a hl hs
    unfold zc8
    refine zbd (zqz hs (by omega) 60 (by omega)) fun r hr => zmf (fun _ => ok_g (by omega) ?_) (fun _ => hJ2 _ _ _ ⟨by have := hl.1; omega, hl.2⟩ (hr.mono (by omega)))
    refine zw7 (fun j (q : List zaf) => q.length ≤ 11 + j ∧ ∀ y, y ∈ q → hdP y) 51 0 _ ⟨by have := hl.1; omega, hl.2⟩ ?_ ?_
    · rintro j q _ hj ⟨h0, h1⟩
      unfold zhu
      exact ok_g (by omega) (zbs ⟨by simp; omega, zyo h1 ⟨by simp, by simp⟩⟩)
    · rintro q ⟨h0, h1⟩
      unfold zhv
      exact hJ2 _ _ _ ⟨by omega, h1⟩ (hr.mono (by omega))
  unfold zeg
  refine zbd (zql h (by omega) most hm) fun r hr => zbd (zqz hr.2 (by omega) 10 (by omega)) fun r5 h5 => zmf (fun _ => ?_) (fun _ => ?_)
  · refine zbd (zqg h5 (by omega)) fun r8 h8 => zbd (zq0 h8.2 (by omega)) fun r10 h10 => ok_g (by have := hr.1.1; omega) ?_
    exact hJ _ _ _ ⟨by have := hr.1.1; simp; omega, zyo hr.1.2 ⟨by have := h8.1; simp only; omega, by have := h10.1; simp only; omega⟩⟩ (h10.2.mono (by omega))
  · exact hJ _ _ _ ⟨by have := hr.1.1; omega, hr.1.2⟩ (h5.mono (by omega))
def rqP (r : zar) : Prop := r.Method.length ≤ 100000 ∧ r.Host ∈ zrj ∧ r.Path.length ≤ 100000 ∧ r.Query.length ≤ 100000 ∧ r.From.length ≤ 100000 ∧ hdsP r.Headers
theorem zyn {k : Int} {s : zad} (h : SB k s) (hk : k ≤ 100000) : Ok (zfv s) fun r => r.1 ∈ zrj ∧ SB (k + 1) r.2 := by
  unfold zfv
  refine zbd (zq5 _ _ ⟨by omega, by omega, by simp⟩) fun r4 h4 => ?_
  have hl : r4 = List.replicate 64 97 := by rw [h4]; decide +kernel
  subst hl
  exact zbd (zqk h (by omega) _ ⟨by simp, by simp⟩) fun r5 h5 => zbs ⟨(show ∀ x, x ∈ ([[97, 46, 98], [97, 46, 98], [65, 46, 66], [115, 104, 111, 112, 46, 101, 120, 97, 109, 112, 108, 101], [97, 46, 98, 58, 56, 48], [97, 46, 98, 58, 52, 52, 51], [97, 46, 98, 58, 56, 48, 56, 48], [120, 45, 49, 46, 121], [49, 46, 50, 46, 51, 46, 52], [], [97, 46, 46, 98], [45, 97, 46, 98], [97, 46, 98, 58, 48], [97, 46, 98, 58, 48, 56], [97, 46, 98, 58, 54, 53, 53, 51, 54], [97, 95, 98], [97, 46, 98, 58], [97, 32, 98], List.replicate 64 97] : List Bs) → x ∈ zrj by decide +kernel) _ h5.1, h5.2⟩
theorem zw2 {k : Int} {s : zad} (h : SB k s) (hk : k ≤ 100000) : Ok (zfk s) fun r => r.1 ∈ zrj ∧ SB (k + 1) r.2 := by
  unfold zfk
  exact zbd (zqk h (by omega) _ ⟨by simp, by simp⟩) fun r5 h5 => zbs ⟨(show ∀ x, x ∈ ([[97, 46, 98], [97, 46, 98], [65, 46, 66], [97, 46, 98, 58, 56, 48], [99, 46, 100, 58, 56, 48, 56, 48]] : List Bs) → x ∈ zrj by decide +kernel) _ h5.1, h5.2⟩
end Go.Proofs.YthgblfklceopgaaGreatDoor
