/- Plain: the stream of draws. -/
import Derived.Test.YthgblfklceopgaaGreatDoorYnm
import Derived.Test.YthgblfklceopgaaGreatDoorOkYn
namespace Go.Proofs.YthgblfklceopgaaGreatDoor
set_option linter.unusedVariables false
set_option maxRecDepth 20000
def SB (n : Int) (s : zad) : Prop := 0 ≤ s.at_ ∧ s.at_ ≤ n
theorem SB.mono {n m : Int} {s : zad} (h : SB n s) (hm : n ≤ m) : SB m s := ⟨h.1, by have := h.2; omega⟩

theorem zwi (x n : Int) (hn : n ≤ 1000000000000000) : Ok (zi4 x n) fun r => 0 ≤ r ∧ (1 ≤ n → r < n) ∧ (n < 1 → r = 0) := by
  unfold zi4 zjj
  refine zmf (fun h => zbs ?_) (fun h => ok_g ?_ (zmf (fun h2 => zbs ?_) (fun h2 => zbs ?_)))
  · simp at h; omega
  · simp at h; omega
  · simp at h h2
    have h3 := Int.tmod_lt_of_pos x (show 0 < n by omega)
    have h4 : -n < x.tmod n := by
      have := Int.lt_tmod_of_pos x (show 0 < n by omega)
      omega
    rw [zlh (by omega)]
    omega
  · simp at h h2
    have h3 := Int.tmod_lt_of_pos x (show 0 < n by omega)
    omega
theorem zqn {k : Int} {s : zad} (h : SB k s) (hk : k ≤ 1000000000) (n : Int) (hn : n ≤ 1000000000000000) :
    Ok (zb0 s n) fun r => (0 ≤ r.1 ∧ (1 ≤ n → r.1 < n) ∧ (n < 1 → r.1 = 0)) ∧ SB (k + 1) r.2 := by
  obtain ⟨h1, h2⟩ := h
  have e1 : wr (s.at_ + 1) = s.at_ + 1 := zlh (by omega)
  have e2 : wr (s.at_ + 1 - 1) = s.at_ := by rw [zlh (by omega)]; omega
  unfold zb0
  simp only [e1, e2]
  refine zmf (fun h => ?_) (fun h => ?_)
  · exact zbd (zwi _ n hn) fun r hr => zbs ⟨hr, by simp only [SB]; omega⟩
  · simp at h
    have hL : 0 < s.L.length := by cases hq : s.L with | nil => exact absurd hq h | cons _ _ => simp
    refine ok_g (by omega) (ok_g ⟨by omega, by omega⟩ ?_)
    have hi : 0 ≤ s.at_.tmod (s.L.length : Int) := Int.tmod_nonneg _ h1
    have hi2 := Int.tmod_lt_of_pos s.at_ (show (0 : Int) < s.L.length by omega)
    have hat : Ok (at? s.L (s.at_.tmod (s.L.length : Int))) fun _ => True := by
      unfold at?
      rw [if_pos hi, List.getElem?_eq_getElem (by omega)]
      exact ⟨_, rfl, trivial⟩
    refine zbd hat fun x _ => zbd (zwi _ _ (by omega)) fun r _ => zbd (zwi _ n hn) fun r hr => zbs ⟨hr, by simp only [SB]; omega⟩
section
variable {k : Int} {s : zad} (h : SB k s) (hk : k ≤ 100000000)
include h hk
theorem zqz (n : Int) (hn : n ≤ 1000000000000000) : Ok (zb1 s n) fun r => SB (k + 1) r.2 := by
  unfold zb1
  exact zbd (zqn h (by omega) n hn) fun r hr => zbs hr.2
theorem zya (l : List Int) (hl : l ≠ [] ∧ l.length ≤ 1000) : Ok (zep s l) fun r => r.1 ∈ l ∧ SB (k + 1) r.2 := by
  unfold zep
  have hp : 0 < l.length := by cases hq : l with | nil => exact absurd hq hl.1 | cons _ _ => simp
  refine zbd (zqn h (by omega) _ (by omega)) fun r hr => ?_
  have h1 := hr.1.2.1 (by omega)
  have hat : Ok (at? l r.1) fun x => x ∈ l := by
    unfold at?
    rw [if_pos hr.1.1, List.getElem?_eq_getElem (by omega)]
    exact ⟨_, rfl, List.getElem_mem _⟩
  exact zbd hat fun x hx => zbs ⟨hx, hr.2⟩
theorem zqk (l : List Bs) (hl : l ≠ [] ∧ l.length ≤ 1000) : Ok (za6 s l) fun r => r.1 ∈ l ∧ SB (k + 1) r.2 := by
  unfold za6
  have hp : 0 < l.length := by cases hq : l with | nil => exact absurd hq hl.1 | cons _ _ => simp
  refine zbd (zqn h (by omega) _ (by omega)) fun r hr => ?_
  have h1 := hr.1.2.1 (by omega)
  have hat : Ok (at? l r.1) fun x => x ∈ l := by
    unfold at?
    rw [if_pos hr.1.1, List.getElem?_eq_getElem (by omega)]
    exact ⟨_, rfl, List.getElem_mem _⟩
  exact zbd hat fun x hx => zbs ⟨hx, hr.2⟩
theorem ztm (lo hi : Int) (hr : -1000000000000 ≤ lo ∧ lo ≤ hi ∧ hi ≤ 1000000000000) : Ok (zdh s lo hi) fun r => (lo ≤ r.1 ∧ r.1 ≤ hi) ∧ SB (k + 1) r.2 := by
  unfold zdh
  refine zmf (fun h => absurd h (by simp; omega)) (fun _ => ?_)
  have e1 : wr (wr (hi - lo) + 1) = hi - lo + 1 := by rw [zlh (n := hi - lo) (by omega), zlh (by omega)]
  rw [e1]
  refine zbd (zqn h (by omega) _ (by omega)) fun r hr2 => zbs ?_
  have h1 := hr2.1.2.1 (by omega)
  have h2 := hr2.1.1
  simp only
  rw [zlh (by omega)]
  exact ⟨by omega, hr2.2⟩
end
theorem z8g {k : Int} {s : zad} (h : SB k s) (hk : k ≤ 10000000) (lo hi : Int) (hr : -1000000000000 ≤ lo ∧ lo ≤ hi ∧ hi ≤ 1000000000000) : Ok (zim s lo hi) fun r => (-2000000000000 ≤ r.1 ∧ r.1 ≤ 2000000000000) ∧ SB (k + 2) r.2 := by
  unfold zim
  refine zbd (zqz h (by omega) 12 (by omega)) fun r hr2 => zmf (fun _ => ?_) (fun _ => ?_)
  · refine zbd (zya hr2 (by omega) _ ⟨by simp, by simp⟩) fun r3 hr3 => zbs ⟨?_, hr3.2.mono (by omega)⟩
    have hm := hr3.1
    rw [zlh (n := lo - 1) (by omega), zlh (n := hi + 1) (by omega)] at hm
    simp only [List.mem_cons, List.not_mem_nil, or_false] at hm
    simp only
    omega
  · exact zbd (ztm hr2 (by omega) lo hi hr) fun r3 hr3 => zbs ⟨by simp only; omega, hr3.2.mono (by omega)⟩
end Go.Proofs.YthgblfklceopgaaGreatDoor
