/- Plain: the stream of draws. -/
import Derived.Test.YtaolapgdgdmapaaGreatDoorZbm
import Derived.Test.YtaolapgdgdmapaaGreatDoorOkZb
namespace Go.Proofs.YtaolapgdgdmapaaGreatDoor
set_option linter.unusedVariables false
set_option maxRecDepth 20000
def SB (n : Int) (s : S_gatemake_Stream) : Prop := 0 ≤ s.at_ ∧ s.at_ ≤ n
theorem SB.mono {n m : Int} {s : S_gatemake_Stream} (h : SB n s) (hm : n ≤ m) : SB m s := ⟨h.1, by have := h.2; omega⟩

theorem below_ok (x n : Int) (hn : n ≤ 1000000000000000) : Ok (m_gatemake_Below x n) fun r => 0 ≤ r ∧ (1 ≤ n → r < n) ∧ (n < 1 → r = 0) := by
  unfold m_gatemake_Below gatemake_Below_J1
  refine ok_if (fun h => ok_some ?_) (fun h => ok_g ?_ (ok_if (fun h2 => ok_some ?_) (fun h2 => ok_some ?_)))
  · simp at h; omega
  · simp at h; omega
  · simp at h h2
    have h3 := Int.tmod_lt_of_pos x (show 0 < n by omega)
    have h4 : -n < x.tmod n := by
      have := Int.lt_tmod_of_pos x (show 0 < n by omega)
      omega
    rw [wr_id (by omega)]
    omega
  · simp at h h2
    have h3 := Int.tmod_lt_of_pos x (show 0 < n by omega)
    omega
theorem next_ok {k : Int} {s : S_gatemake_Stream} (h : SB k s) (hk : k ≤ 1000000000) (n : Int) (hn : n ≤ 1000000000000000) :
    Ok (m_gatemake_Stream_Next s n) fun r => (0 ≤ r.1 ∧ (1 ≤ n → r.1 < n) ∧ (n < 1 → r.1 = 0)) ∧ SB (k + 1) r.2 := by
  obtain ⟨h1, h2⟩ := h
  have e1 : wr (s.at_ + 1) = s.at_ + 1 := wr_id (by omega)
  have e2 : wr (s.at_ + 1 - 1) = s.at_ := by rw [wr_id (by omega)]; omega
  unfold m_gatemake_Stream_Next
  simp only [e1, e2]
  refine ok_if (fun h => ?_) (fun h => ?_)
  · exact ok_bind (below_ok _ n hn) fun r hr => ok_some ⟨hr, by simp only [SB]; omega⟩
  · simp at h
    have hL : 0 < s.L.length := by cases hq : s.L with | nil => exact absurd hq h | cons _ _ => simp
    refine ok_g (by omega) (ok_g ⟨by omega, by omega⟩ ?_)
    have hi : 0 ≤ s.at_.tmod (s.L.length : Int) := Int.tmod_nonneg _ h1
    have hi2 := Int.tmod_lt_of_pos s.at_ (show (0 : Int) < s.L.length by omega)
    have hat : Ok (at? s.L (s.at_.tmod (s.L.length : Int))) fun _ => True := by
      unfold at?
      rw [if_pos hi, List.getElem?_eq_getElem (by omega)]
      exact ⟨_, rfl, trivial⟩
    refine ok_bind hat fun x _ => ok_bind (below_ok _ _ (by omega)) fun r _ => ok_bind (below_ok _ n hn) fun r hr => ok_some ⟨hr, by simp only [SB]; omega⟩
section
variable {k : Int} {s : S_gatemake_Stream} (h : SB k s) (hk : k ≤ 100000000)
include h hk
theorem flip_ok (n : Int) (hn : n ≤ 1000000000000000) : Ok (m_gatemake_Stream_Flip s n) fun r => SB (k + 1) r.2 := by
  unfold m_gatemake_Stream_Flip
  exact ok_bind (next_ok h (by omega) n hn) fun r hr => ok_some hr.2
theorem pick_ok (l : List Int) (hl : l ≠ [] ∧ l.length ≤ 1000) : Ok (m_gatemake_Stream_Pick s l) fun r => r.1 ∈ l ∧ SB (k + 1) r.2 := by
  unfold m_gatemake_Stream_Pick
  have hp : 0 < l.length := by cases hq : l with | nil => exact absurd hq hl.1 | cons _ _ => simp
  refine ok_bind (next_ok h (by omega) _ (by omega)) fun r hr => ?_
  have h1 := hr.1.2.1 (by omega)
  have hat : Ok (at? l r.1) fun x => x ∈ l := by
    unfold at?
    rw [if_pos hr.1.1, List.getElem?_eq_getElem (by omega)]
    exact ⟨_, rfl, List.getElem_mem _⟩
  exact ok_bind hat fun x hx => ok_some ⟨hx, hr.2⟩
theorem some_ok (l : List Bs) (hl : l ≠ [] ∧ l.length ≤ 1000) : Ok (m_gatemake_Stream_Some s l) fun r => r.1 ∈ l ∧ SB (k + 1) r.2 := by
  unfold m_gatemake_Stream_Some
  have hp : 0 < l.length := by cases hq : l with | nil => exact absurd hq hl.1 | cons _ _ => simp
  refine ok_bind (next_ok h (by omega) _ (by omega)) fun r hr => ?_
  have h1 := hr.1.2.1 (by omega)
  have hat : Ok (at? l r.1) fun x => x ∈ l := by
    unfold at?
    rw [if_pos hr.1.1, List.getElem?_eq_getElem (by omega)]
    exact ⟨_, rfl, List.getElem_mem _⟩
  exact ok_bind hat fun x hx => ok_some ⟨hx, hr.2⟩
theorem range_ok (lo hi : Int) (hr : -1000000000000 ≤ lo ∧ lo ≤ hi ∧ hi ≤ 1000000000000) : Ok (m_gatemake_Stream_Range s lo hi) fun r => (lo ≤ r.1 ∧ r.1 ≤ hi) ∧ SB (k + 1) r.2 := by
  unfold m_gatemake_Stream_Range
  refine ok_if (fun h => absurd h (by simp; omega)) (fun _ => ?_)
  have e1 : wr (wr (hi - lo) + 1) = hi - lo + 1 := by rw [wr_id (n := hi - lo) (by omega), wr_id (by omega)]
  rw [e1]
  refine ok_bind (next_ok h (by omega) _ (by omega)) fun r hr2 => ok_some ?_
  have h1 := hr2.1.2.1 (by omega)
  have h2 := hr2.1.1
  simp only
  rw [wr_id (by omega)]
  exact ⟨by omega, hr2.2⟩
end
theorem odd_ok {k : Int} {s : S_gatemake_Stream} (h : SB k s) (hk : k ≤ 10000000) (lo hi : Int) (hr : -1000000000000 ≤ lo ∧ lo ≤ hi ∧ hi ≤ 1000000000000) : Ok (m_gatemake_Stream_Odd s lo hi) fun r => (-2000000000000 ≤ r.1 ∧ r.1 ≤ 2000000000000) ∧ SB (k + 2) r.2 := by
  unfold m_gatemake_Stream_Odd
  refine ok_bind (flip_ok h (by omega) 12 (by omega)) fun r hr2 => ok_if (fun _ => ?_) (fun _ => ?_)
  · refine ok_bind (pick_ok hr2 (by omega) _ ⟨by simp, by simp⟩) fun r3 hr3 => ok_some ⟨?_, hr3.2.mono (by omega)⟩
    have hm := hr3.1
    rw [wr_id (n := lo - 1) (by omega), wr_id (n := hi + 1) (by omega)] at hm
    simp only [List.mem_cons, List.not_mem_nil, or_false] at hm
    simp only
    omega
  · exact ok_bind (range_ok hr2 (by omega) lo hi hr) fun r3 hr3 => ok_some ⟨by simp only; omega, hr3.2.mono (by omega)⟩
end Go.Proofs.YtaolapgdgdmapaaGreatDoor
