/- Plain: streams of headers, requests and responses. -/
import Derived.Test.YtgjfcdcpiamikaaGreatDoorMhYz
namespace Go.Proofs.YtgjfcdcpiamikaaGreatDoor
set_option linter.unusedVariables false
set_option maxRecDepth 20000
theorem queryName_ok {k : Int} {s : S_gatemake_Stream} (h : SB k s) (hk : k ≤ 1000) : Ok (m_gatemake_Stream_QueryName s) fun r => r.1.length ≤ 30000 ∧ SB (k + 200) r.2 := by
  unfold m_gatemake_Stream_QueryName gatemake_Stream_QueryName_J1
  refine ok_bind (range_ok h (by omega) 0 4 (by omega)) fun r hr => ?_
  obtain ⟨m, hm⟩ : ∃ m : Nat, r.1 = (m : Int) := ⟨r.1.toNat, by omega⟩
  rw [hm]
  refine ok_bind (words_ok hr.2 (by omega) m (by omega) [38] (by simp) _ ⟨by simp, by simp⟩ (by decide)) fun r2 h2 => ok_bind (flip_ok h2.2 (by omega) 12 (by omega)) fun r3 h3 => ok_if (fun _ => ?_) (fun _ => ok_some ⟨h2.1, ?_⟩)
  · refine ok_bind (words_ok h3 (by omega) 101 (by omega) [38] (by simp) [[120]] ⟨by simp, by simp⟩ (by decide)) fun r4 h4 => ok_bind (some_ok h4.2 (by omega) _ ⟨by simp, by simp⟩) fun r5 h5 => ok_some ⟨?_, ?_⟩
    · have hm := h5.1
      simp only [List.mem_cons, List.not_mem_nil, or_false] at hm
      rcases hm with e | e | e | e | e | e <;> rw [e] <;> first | decide | exact h4.1
    · exact h5.2.mono (by omega)
  · exact h3.mono (by omega)
theorem someB_ok {k : Int} {s : S_gatemake_Stream} (h : SB k s) (hk : k ≤ 100000000) (B : Nat) (l : List Bs) (hl : l ≠ [] ∧ l.length ≤ 1000) (hB : ∀ x, x ∈ l → x.length ≤ B) : Ok (m_gatemake_Stream_Some s l) fun r => r.1.length ≤ B ∧ SB (k + 1) r.2 :=
  ok_mono (some_ok h hk l hl) fun r hr => ⟨hB _ hr.1, hr.2⟩
theorem rep_some (s : Bs) (n : Int) (h : 0 ≤ n ∧ n ≤ 1000000 ∧ s.length ≤ 1000000) : Ok (m_strings_Repeat s n) fun r => r = Lib.repeatL s n.toNat := by
  unfold m_strings_Repeat
  rw [if_pos h]
  exact ok_some rfl
theorem enc_len (c : UInt8) : (encL (IntKind.wrap .i32 (c.toNat : Int))).length ≤ 4 := by
  have := u8_all (fun c => decide ((encL (IntKind.wrap .i32 (c.toNat : Int))).length ≤ 4)) (by decide +kernel) c
  exact of_decide_eq_true this
theorem sub_ok (l : Bs) (a b : Int) (h : 0 ≤ a ∧ a ≤ b ∧ b ≤ (l.length : Int)) : Ok (sub? l a b) fun r => r.length ≤ l.length := by
  unfold sub?
  rw [if_pos h]
  exact ok_some (by simp; omega)
theorem changed_ok {k : Int} {s : S_gatemake_Stream} (h : SB k s) (hk : k ≤ 1000000) (t v : Bs) (ht : t.length ≤ 100000) (hv : v.length ≤ 100000) :
    Ok (m_gatemake_Stream_Changed s t v) fun r => r.1.length ≤ 2 * t.length + v.length + 4 ∧ SB (k + 3) r.2 := by
  unfold m_gatemake_Stream_Changed
  refine ok_if (fun _ => ok_some ⟨by simp only; omega, h.mono (by omega)⟩) (fun h0 => ?_)
  simp only [Bool.or_eq_true, decide_eq_true_eq, not_or] at h0
  have ht0 : 0 < t.length := by cases hq : t with | nil => exact absurd hq h0.1 | cons _ _ => simp
  have hv0 : 0 < v.length := by cases hq : v with | nil => exact absurd hq h0.2 | cons _ _ => simp
  refine ok_bind (next_ok h (by omega) _ (by omega)) fun r5 h5 => ok_bind (next_ok h5.2 (by omega) _ (by omega)) fun r7 h7 => ?_
  have b5 := h5.1.2.1 (by omega)
  have b7 := h7.1.2.1 (by omega)
  have c5 := h5.1.1
  have c7 := h7.1.1
  have hat : Ok (at? v r7.1) fun _ => True := by
    unfold at?
    rw [if_pos c7, List.getElem?_eq_getElem (by omega)]
    exact ⟨_, rfl, trivial⟩
  refine ok_bind hat fun x9 _ => ok_bind (next_ok h7.2 (by omega) 3 (by omega)) fun r11 h11 => ?_
  have he := enc_len x9
  have hw : wr (r5.1 + 1) = r5.1 + 1 := wr_id (by omega)
  have hS : SB (k + 3) r11.2 := h11.2.mono (by omega)
  rw [hw]
  refine ok_if (fun _ => ?_) (fun _ => ok_if (fun _ => ?_) (fun _ => ?_))
  · refine ok_bind (sub_ok t _ _ ⟨by omega, by omega, by omega⟩) fun l14 h14 => ok_g (by omega) (ok_bind (sub_ok t _ _ ⟨by omega, by omega, by omega⟩) fun l17 h17 => ok_g (by simp; omega) (ok_some ⟨by simp; omega, hS⟩))
  · refine ok_bind (sub_ok t _ _ ⟨by omega, by omega, by omega⟩) fun l14 h14 => ok_g (by omega) (ok_bind (sub_ok t _ _ ⟨by omega, by omega, by omega⟩) fun l17 h17 => ok_g (by simp; omega) (ok_some ⟨by simp; omega, hS⟩))
  · refine ok_bind (sub_ok t _ _ ⟨by omega, by omega, by omega⟩) fun l14 h14 => ok_bind (sub_ok t _ _ ⟨by omega, by omega, by omega⟩) fun l17 h17 => ok_g (by omega) (ok_some ⟨by simp; omega, hS⟩)
theorem pathName_ok {k : Int} {s : S_gatemake_Stream} (h : SB k s) (hk : k ≤ 1000) : Ok (m_gatemake_Stream_PathName s) fun r => r.1.length ≤ 100000 ∧ SB (k + 30) r.2 := by
  have hJ : ∀ (p : Bs) (c : List Int) (a : Int), p.length ≤ 40000 → SB (k + 20) (S_gatemake_Stream.mk c a) → Ok (gatemake_Stream_PathName_J1 p c a) fun r => r.1.length ≤ 100000 ∧ SB (k + 30) r.2 := by
    intro p c a hp hs
    unfold gatemake_Stream_PathName_J1 gatemake_Stream_PathName_J2
    refine ok_bind (flip_ok hs (by omega) 12 (by omega)) fun r hr => ok_if (fun _ => ?_) (fun _ => ok_some ⟨by simp only; omega, hr.mono (by omega)⟩)
    refine ok_bind (changed_ok hr (by omega) p _ (by omega) (by simp)) fun r2 h2 => ok_some ⟨?_, h2.2.mono (by omega)⟩
    have := h2.1
    simp only [List.length_cons, List.length_nil] at this
    simp only
    omega
  unfold m_gatemake_Stream_PathName
  refine ok_bind (range_ok h (by omega) 0 4 (by omega)) fun r hr => ?_
  obtain ⟨m, hm⟩ : ∃ m : Nat, r.1 = (m : Int) := ⟨r.1.toNat, by omega⟩
  rw [hm]
  refine ok_bind (words_ok hr.2 (by omega) m (by omega) [47] (by simp) _ ⟨by simp, by simp⟩ (by decide)) fun r2 h2 => ok_g (by simp; omega) (ok_bind (flip_ok h2.2 (by omega) 12 (by omega)) fun r3 h3 => ok_if (fun _ => ?_) (fun _ => ?_))
  · refine ok_bind (rep_some _ _ ⟨by omega, by omega, by simp⟩) fun r4 h4 => ?_
    have hl : r4.length = 1020 := by rw [h4]; decide +kernel
    refine ok_g (by simp; omega) (ok_bind (someB_ok h3 (by omega) 2000 _ ⟨by simp, by simp⟩ (by simp [hl])) fun r5 h5 => ?_)
    exact hJ _ _ _ (by have := h5.1; omega) (h5.2.mono (by omega))
  · exact hJ _ _ _ (by have := h2.1; simp; omega) (h3.mono (by omega))
theorem tokenText_ok {k : Int} {s : S_gatemake_Stream} (h : SB k s) (hk : k ≤ 100000) : Ok (m_gatemake_Stream_TokenText s) fun r => r.1.length ≤ 2500 ∧ SB (k + 1) r.2 := by
  unfold m_gatemake_Stream_TokenText
  refine ok_bind (rep_some _ _ ⟨by omega, by omega, by simp⟩) fun r4 h4 => ?_
  have hl : r4.length = 101 := by rw [h4]; decide +kernel
  exact ok_bind (someB_ok h (by omega) 2500 _ ⟨by simp, by simp⟩ (by simp [hl])) fun r5 h5 => ok_some h5
theorem fieldText_ok {k : Int} {s : S_gatemake_Stream} (h : SB k s) (hk : k ≤ 100000) : Ok (m_gatemake_Stream_FieldText s) fun r => r.1.length ≤ 2500 ∧ SB (k + 1) r.2 := by
  unfold m_gatemake_Stream_FieldText
  refine ok_bind (rep_some _ _ ⟨by omega, by omega, by simp⟩) fun r4 h4 => ?_
  have hl : r4.length = 2001 := by rw [h4]; decide +kernel
  exact ok_bind (someB_ok h (by omega) 2500 _ ⟨by simp, by simp⟩ (by simp [hl])) fun r5 h5 => ok_some h5
theorem hd_snoc {l : List S_api_Header} {x : S_api_Header} (h : ∀ y, y ∈ l → hdP y) (hx : hdP x) : ∀ y, y ∈ l ++ [x] → hdP y := by
  intro y hy
  rcases List.mem_append.1 hy with hy | hy
  · exact h y hy
  · rw [List.mem_singleton.1 hy]; exact hx
theorem rightHeaders_ok {k : Int} {s : S_gatemake_Stream} (h : SB k s) (hk : k ≤ 10000) (most : Int) (hm : 0 ≤ most ∧ most ≤ 10) :
    Ok (m_gatemake_Stream_RightHeaders s most) fun r => (r.1.length ≤ 10 ∧ ∀ y, y ∈ r.1 → hdP y) ∧ SB (k + 30) r.2 := by
  unfold m_gatemake_Stream_RightHeaders
  refine ok_bind (range_ok h (by omega) 0 most (by omega)) fun r hr => ?_
  obtain ⟨m, hm⟩ : ∃ m : Nat, r.1 = (m : Int) := ⟨r.1.toNat, by omega⟩
  rw [hm, Int.toNat_natCast]
  refine ok_g (by omega) ?_
  refine ok_rng (fun j (q : List Int × Int × List S_api_Header) => j ≤ m ∧ SB (k + 1 + 2 * (j : Int)) (S_gatemake_Stream.mk q.1 q.2.1) ∧ q.2.2.length ≤ j ∧ ∀ y, y ∈ q.2.2 → hdP y) m 0 _ ⟨by omega, hr.2.mono (by omega), by simp, by simp⟩ ?_ ?_
  · rintro j ⟨c5, c6, l7⟩ _ hj ⟨h0, h1, h2, h3⟩
    simp only at h1 h2 h3 ⊢
    unfold gatemake_Stream_RightHeaders_L1
    refine ok_bind (someB_ok h1 (by omega) 100 _ ⟨by simp, by simp⟩ (by simp)) fun r1 hr1 => ok_bind (someB_ok hr1.2 (by omega) 100 _ ⟨by simp, by simp⟩ (by simp)) fun r2 hr2 => ok_g (by omega) (ok_some ?_)
    exact ⟨by omega, hr2.2.mono (by omega), by simp; omega, hd_snoc h3 ⟨by have := hr1.1; simp only; omega, by have := hr2.1; simp only; omega⟩⟩
  · rintro ⟨c5, c6, l7⟩ ⟨h0, h1, h2, h3⟩
    simp only at h1 h2 h3 ⊢
    unfold gatemake_Stream_RightHeaders_E1
    exact ok_some ⟨⟨by simp only; omega, h3⟩, h1.mono (by omega)⟩
theorem headers_ok {k : Int} {s : S_gatemake_Stream} (h : SB k s) (hk : k ≤ 10000) (most : Int) (hm : 0 ≤ most ∧ most ≤ 10) :
    Ok (m_gatemake_Stream_Headers s most) fun r => hdsP r.1 ∧ SB (k + 40) r.2 := by
  have hJ2 : ∀ (l : List S_api_Header) (c : List Int) (a : Int), hdsP l → SB (k + 40) (S_gatemake_Stream.mk c a) → Ok (gatemake_Stream_Headers_J2 l c a) fun r => hdsP r.1 ∧ SB (k + 40) r.2 := by
    intro l c a hl hs
    unfold gatemake_Stream_Headers_J2
    exact ok_some ⟨hl, hs⟩
  have hJ : ∀ (l : List S_api_Header) (c : List Int) (a : Int), l.length ≤ 11 ∧ (∀ y, y ∈ l → hdP y) → SB (k + 39) (S_gatemake_Stream.mk c a) → Ok (gatemake_Stream_Headers_J1 l c a) fun r => hdsP r.1 ∧ SB (k + 40) r.2 := by
    intro l c a hl hs
    unfold gatemake_Stream_Headers_J1
    refine ok_bind (flip_ok hs (by omega) 60 (by omega)) fun r hr => ok_if (fun _ => ok_g (by omega) ?_) (fun _ => hJ2 _ _ _ ⟨by have := hl.1; omega, hl.2⟩ (hr.mono (by omega)))
    refine ok_rng (fun j (q : List S_api_Header) => q.length ≤ 11 + j ∧ ∀ y, y ∈ q → hdP y) 51 0 _ ⟨by have := hl.1; omega, hl.2⟩ ?_ ?_
    · rintro j q _ hj ⟨h0, h1⟩
      unfold gatemake_Stream_Headers_L3
      exact ok_g (by omega) (ok_some ⟨by simp; omega, hd_snoc h1 ⟨by simp, by simp⟩⟩)
    · rintro q ⟨h0, h1⟩
      unfold gatemake_Stream_Headers_E3
      exact hJ2 _ _ _ ⟨by omega, h1⟩ (hr.mono (by omega))
  unfold m_gatemake_Stream_Headers
  refine ok_bind (rightHeaders_ok h (by omega) most hm) fun r hr => ok_bind (flip_ok hr.2 (by omega) 10 (by omega)) fun r5 h5 => ok_if (fun _ => ?_) (fun _ => ?_)
  · refine ok_bind (tokenText_ok h5 (by omega)) fun r8 h8 => ok_bind (fieldText_ok h8.2 (by omega)) fun r10 h10 => ok_g (by have := hr.1.1; omega) ?_
    exact hJ _ _ _ ⟨by have := hr.1.1; simp; omega, hd_snoc hr.1.2 ⟨by have := h8.1; simp only; omega, by have := h10.1; simp only; omega⟩⟩ (h10.2.mono (by omega))
  · exact hJ _ _ _ ⟨by have := hr.1.1; omega, hr.1.2⟩ (h5.mono (by omega))
/-- requests of the streams -/
def rqP (r : S_api_Request) : Prop := r.Method.length ≤ 100000 ∧ r.Host ∈ hostsL ∧ r.Path.length ≤ 100000 ∧ r.Query.length ≤ 100000 ∧ r.From.length ≤ 100000 ∧ hdsP r.Headers
theorem hostName_ok {k : Int} {s : S_gatemake_Stream} (h : SB k s) (hk : k ≤ 100000) : Ok (m_gatemake_Stream_HostName s) fun r => r.1 ∈ hostsL ∧ SB (k + 1) r.2 := by
  unfold m_gatemake_Stream_HostName
  refine ok_bind (rep_some _ _ ⟨by omega, by omega, by simp⟩) fun r4 h4 => ?_
  have hl : r4 = List.replicate 64 97 := by rw [h4]; decide +kernel
  subst hl
  exact ok_bind (some_ok h (by omega) _ ⟨by simp, by simp⟩) fun r5 h5 => ok_some ⟨(show ∀ x, x ∈ ([[97, 46, 98], [97, 46, 98], [65, 46, 66], [115, 104, 111, 112, 46, 101, 120, 97, 109, 112, 108, 101], [97, 46, 98, 58, 56, 48], [97, 46, 98, 58, 52, 52, 51], [97, 46, 98, 58, 56, 48, 56, 48], [120, 45, 49, 46, 121], [49, 46, 50, 46, 51, 46, 52], [], [97, 46, 46, 98], [45, 97, 46, 98], [97, 46, 98, 58, 48], [97, 46, 98, 58, 48, 56], [97, 46, 98, 58, 54, 53, 53, 51, 54], [97, 95, 98], [97, 46, 98, 58], [97, 32, 98], List.replicate 64 97] : List Bs) → x ∈ hostsL by decide +kernel) _ h5.1, h5.2⟩
theorem rightHost_ok {k : Int} {s : S_gatemake_Stream} (h : SB k s) (hk : k ≤ 100000) : Ok (m_gatemake_Stream_RightHost s) fun r => r.1 ∈ hostsL ∧ SB (k + 1) r.2 := by
  unfold m_gatemake_Stream_RightHost
  exact ok_bind (some_ok h (by omega) _ ⟨by simp, by simp⟩) fun r5 h5 => ok_some ⟨(show ∀ x, x ∈ ([[97, 46, 98], [97, 46, 98], [65, 46, 66], [97, 46, 98, 58, 56, 48], [99, 46, 100, 58, 56, 48, 56, 48]] : List Bs) → x ∈ hostsL by decide +kernel) _ h5.1, h5.2⟩
theorem rightRequest_ok {k : Int} {s : S_gatemake_Stream} (h : SB k s) (hk : k ≤ 5000) : Ok (m_gatemake_Stream_RightRequest s) fun r => rqP r.1 ∧ SB (k + 50) r.2 := by
  unfold m_gatemake_Stream_RightRequest gatemake_Stream_RightRequest_J1
  refine ok_bind (pick_ok h (by omega) _ ⟨by simp, by simp⟩) fun r2 h2 => ok_bind (someB_ok h2.2 (by omega) 100 _ ⟨by simp, by simp⟩ (by simp)) fun r4 h4 => ok_bind (rightHost_ok h4.2 (by omega)) fun r6 h6 => ok_bind (someB_ok h6.2 (by omega) 100 _ ⟨by simp, by simp⟩ (by simp)) fun r8 h8 => ok_bind (someB_ok h8.2 (by omega) 100 _ ⟨by simp, by simp⟩ (by simp)) fun r10 h10 => ok_bind (someB_ok h10.2 (by omega) 100 _ ⟨by simp, by simp⟩ (by simp)) fun r12 h12 => ok_bind (rightHeaders_ok h12.2 (by omega) 4 (by omega)) fun r14 h14 => ok_bind (flip_ok h14.2 (by omega) 4 (by omega)) fun r16 h16 => ?_
  have a1 := h4.1
  have a2 := h8.1
  have a3 := h10.1
  have a4 := h12.1
  have hq : ∀ b : Bs, rqP (S_api_Request.mk r2.1 r4.1 r6.1 r8.1 r10.1 r12.1 r14.1 b) := fun b => ⟨by simp only; omega, h6.1, by simp only; omega, by simp only; omega, by simp only; omega, by have := h14.1.1; simp only; omega, h14.1.2⟩
  refine ok_if (fun _ => ?_) (fun _ => ok_some ⟨hq _, h16.mono (by omega)⟩)
  refine ok_bind (rep_some _ _ ⟨by omega, by omega, by simp⟩) fun r19 _ => ok_bind (some_ok h16 (by omega) _ ⟨by simp, by simp⟩) fun r21 h21 => ok_some ⟨hq _, h21.2.mono (by omega)⟩
theorem request_ok {k : Int} {s : S_gatemake_Stream} (h : SB k s) (hk : k ≤ 900) : Ok (m_gatemake_Stream_Request s) fun r => rqP r.1 ∧ SB (k + 300) r.2 := by
  unfold m_gatemake_Stream_Request gatemake_Stream_Request_J1
  refine ok_bind (rightRequest_ok h (by omega)) fun r2 h2 => ok_bind (flip_ok h2.2 (by omega) 6 (by omega)) fun r4 h4 => ?_
  obtain ⟨⟨p1, p2, p3, p4, p5, p6⟩, _⟩ := h2
  refine ok_if (fun _ => ?_) (fun _ => ok_some ⟨⟨p1, p2, p3, p4, p5, p6⟩, h4.mono (by omega)⟩)
  refine ok_bind (next_ok h4 (by omega) 8 (by omega)) fun r7 h7 => ?_
  refine ok_if (fun _ => ok_bind (odd_ok h7.2 (by omega) 0 1000 (by omega)) fun r h => ok_some ⟨⟨p1, p2, p3, p4, p5, p6⟩, h.2.mono (by omega)⟩) (fun _ => ?_)
  refine ok_if (fun _ => ok_bind (tokenText_ok h7.2 (by omega)) fun r h => ok_some ⟨⟨by have := h.1; simp only; omega, p2, p3, p4, p5, p6⟩, h.2.mono (by omega)⟩) (fun _ => ?_)
  refine ok_if (fun _ => ok_bind (hostName_ok h7.2 (by omega)) fun r h => ok_some ⟨⟨p1, h.1, p3, p4, p5, p6⟩, h.2.mono (by omega)⟩) (fun _ => ?_)
  refine ok_if (fun _ => ok_bind (pathName_ok h7.2 (by omega)) fun r h => ok_some ⟨⟨p1, p2, h.1, p4, p5, p6⟩, h.2.mono (by omega)⟩) (fun _ => ?_)
  refine ok_if (fun _ => ok_bind (queryName_ok h7.2 (by omega)) fun r h => ok_some ⟨⟨p1, p2, p3, by have := h.1; simp only; omega, p5, p6⟩, h.2.mono (by omega)⟩) (fun _ => ?_)
  refine ok_if (fun _ => ok_bind (fieldText_ok h7.2 (by omega)) fun r h => ok_some ⟨⟨p1, p2, p3, p4, by have := h.1; simp only; omega, p6⟩, h.2.mono (by omega)⟩) (fun _ => ?_)
  refine ok_if (fun _ => ok_bind (headers_ok h7.2 (by omega) 4 (by omega)) fun r h => ok_some ⟨⟨p1, p2, p3, p4, p5, h.1⟩, h.2.mono (by omega)⟩) (fun _ => ?_)
  refine ok_bind (pick_ok h7.2 (by omega) _ ⟨by simp, by simp⟩) fun r h => ?_
  have hm := h.1
  simp only [List.mem_cons, List.not_mem_nil, or_false] at hm
  exact ok_bind (rep_some _ _ ⟨by omega, by omega, by simp⟩) fun r32 _ => ok_some ⟨⟨p1, p2, p3, p4, p5, p6⟩, h.2.mono (by omega)⟩
end Go.Proofs.YtgjfcdcpiamikaaGreatDoor
