/- Plain: streams of requests and responses for caches. -/
import Derived.Test.YtbicifgfibafmaaGreatDoorCtYp
import Derived.Test.YtbicifgfibafmaaGreatDoorRsYp
namespace Go.Proofs.YtbicifgfibafmaaGreatDoor
set_option linter.unusedVariables false
set_option maxRecDepth 20000
def haP (n : Nat) (l : List S_api_Header) : Prop := l.length ≤ n ∧ ∀ y, y ∈ l → hdA y
theorem haP_nil (n : Nat) : haP n ([] : List S_api_Header) := ⟨by simp, by simp⟩
theorem haP_mono {n m : Nat} {l : List S_api_Header} (h : haP n l) (hm : n ≤ m) : haP m l := ⟨by have := h.1; omega, h.2⟩
theorem haP_snoc {n : Nat} {l : List S_api_Header} (h : haP n l) (a b : Bs) (h1 : ascB a = true ∧ a.length ≤ 3000) (h2 : b.length ≤ 30000) : haP (n + 1) (l ++ [S_api_Header.mk a b]) :=
  ⟨by have := h.1; simp; omega, hdA_snoc h.2 (hdA_mk h1 h2)⟩
theorem haP_hds {n : Nat} {l : List S_api_Header} (h : haP n l) (hn : n ≤ 1000) : hdsP l := ⟨by have := h.1; omega, fun y hy => (h.2 y hy).1⟩
def rqA (r : S_api_Request) : Prop := rqP r ∧ haP 100 r.Headers
theorem cacheRequest_ok {k : Int} {s : S_gatemake_Stream} (h : SB k s) (hk : k ≤ 300) (v : Int) : Ok (m_gatemake_Stream_CacheRequest s v) fun r => rqA r.1 ∧ SB (k + 400) r.2 := by
  have hJ5 : ∀ (r3 r5 : Bs × S_gatemake_Stream) (l : List S_api_Header) (c : List Int) (a : Int) (p q : Bs), r3.1.length ≤ 100 → r5.1 ∈ hostsL → p.length ≤ 100000 → q.length ≤ 100000 → haP 20 l → SB (k + 400) (S_gatemake_Stream.mk c a) → Ok (gatemake_Stream_CacheRequest_J5 v r3 r5 l c a p q) fun r => rqA r.1 ∧ SB (k + 400) r.2 := by
    intro r3 r5 l c a p q h1 h2 h3 h4 h5 hs
    unfold gatemake_Stream_CacheRequest_J5
    exact ok_some ⟨⟨⟨by show r3.1.length ≤ _; omega, h2, h3, h4, by simp, haP_hds h5 (by omega)⟩, haP_mono h5 (by omega)⟩, hs⟩
  have hJ4 : ∀ (r3 r5 r7 r9 : Bs × S_gatemake_Stream) (c : List Int) (a : Int) (l : List S_api_Header), r3.1.length ≤ 100 → r5.1 ∈ hostsL → r7.1.length ≤ 100 → r9.1.length ≤ 100 → haP 20 l → SB (k + 100) (S_gatemake_Stream.mk c a) → Ok (gatemake_Stream_CacheRequest_J4 v r3 r5 r7 r9 c a l) fun r => rqA r.1 ∧ SB (k + 400) r.2 := by
    intro r3 r5 r7 r9 c a l h1 h2 h3 h4 h5 hs
    unfold gatemake_Stream_CacheRequest_J4
    refine ok_bind (flip_ok hs (by omega) 40 (by omega)) fun r hr => ok_if (fun _ => ?_) (fun _ => hJ5 _ _ _ _ _ _ _ h1 h2 (by omega) (by omega) h5 (hr.mono (by omega)))
    exact ok_bind (pathName_ok hr (by omega)) fun r50 h50 => ok_bind (queryName_ok h50.2 (by omega)) fun r52 h52 => hJ5 _ _ _ _ _ _ _ h1 h2 h50.1 (by have := h52.1; omega) h5 (h52.2.mono (by omega))
  have hJ3 : ∀ (r3 r5 r7 r9 : Bs × S_gatemake_Stream) (c : List Int) (a : Int) (l : List S_api_Header), r3.1.length ≤ 100 → r5.1 ∈ hostsL → r7.1.length ≤ 100 → r9.1.length ≤ 100 → haP 10 l → SB (k + 80) (S_gatemake_Stream.mk c a) → Ok (gatemake_Stream_CacheRequest_J3 v r3 r5 r7 r9 c a l) fun r => rqA r.1 ∧ SB (k + 400) r.2 := by
    intro r3 r5 r7 r9 c a l h1 h2 h3 h4 h5 hs
    unfold gatemake_Stream_CacheRequest_J3
    refine ok_bind (flip_ok hs (by omega) 8 (by omega)) fun r hr => ok_if (fun _ => ?_) (fun _ => hJ4 _ _ _ _ _ _ _ h1 h2 h3 h4 (haP_mono h5 (by omega)) (hr.mono (by omega)))
    exact ok_bind (someB_ok hr (by omega) 100 _ ⟨by simp, by simp⟩ (by decide)) fun r41 h41 => ok_g (by have := h5.1; omega) (hJ4 _ _ _ _ _ _ _ h1 h2 h3 h4 (haP_mono (haP_snoc h5 _ _ ⟨rfl, by simp⟩ (by have := h41.1; omega)) (by omega)) (h41.2.mono (by omega)))
  have hJ2 : ∀ (r3 r5 r7 r9 : Bs × S_gatemake_Stream) (c : List Int) (a : Int) (l : List S_api_Header), r3.1.length ≤ 100 → r5.1 ∈ hostsL → r7.1.length ≤ 100 → r9.1.length ≤ 100 → haP 5 l → SB (k + 70) (S_gatemake_Stream.mk c a) → Ok (gatemake_Stream_CacheRequest_J2 v r3 r5 r7 r9 c a l) fun r => rqA r.1 ∧ SB (k + 400) r.2 := by
    intro r3 r5 r7 r9 c a l h1 h2 h3 h4 h5 hs
    unfold gatemake_Stream_CacheRequest_J2
    refine ok_bind (flip_ok hs (by omega) 12 (by omega)) fun r hr => ok_if (fun _ => ?_) (fun _ => hJ3 _ _ _ _ _ _ _ h1 h2 h3 h4 (haP_mono h5 (by omega)) (hr.mono (by omega)))
    exact ok_g (by have := h5.1; omega) (hJ3 _ _ _ _ _ _ _ h1 h2 h3 h4 (haP_mono (haP_snoc h5 _ _ ⟨rfl, by simp⟩ (by simp)) (by omega)) (hr.mono (by omega)))
  have hJ1 : ∀ (r3 r5 r7 r9 : Bs × S_gatemake_Stream) (c : List Int) (a : Int) (l : List S_api_Header), r3.1.length ≤ 100 → r5.1 ∈ hostsL → r7.1.length ≤ 100 → r9.1.length ≤ 100 → haP 2 l → SB (k + 30) (S_gatemake_Stream.mk c a) → Ok (gatemake_Stream_CacheRequest_J1 v r3 r5 r7 r9 c a l) fun r => rqA r.1 ∧ SB (k + 400) r.2 := by
    intro r3 r5 r7 r9 c a l h1 h2 h3 h4 h5 hs
    unfold gatemake_Stream_CacheRequest_J1
    refine ok_bind (flip_ok hs (by omega) 4 (by omega)) fun r hr => ok_if (fun _ => ?_) (fun _ => hJ2 _ _ _ _ _ _ _ h1 h2 h3 h4 (haP_mono h5 (by omega)) (hr.mono (by omega)))
    exact ok_bind (askValue_ok hr (by omega)) fun r25 h25 => ok_g (by have := h5.1; omega) (hJ2 _ _ _ _ _ _ _ h1 h2 h3 h4 (haP_mono (haP_snoc h5 _ _ ⟨rfl, by simp⟩ h25.1) (by omega)) (h25.2.mono (by omega)))
  unfold m_gatemake_Stream_CacheRequest
  refine ok_bind (someB_ok h (by omega) 100 _ ⟨by simp, by simp⟩ (by decide)) fun r3 h3 => ok_bind (some_ok h3.2 (by omega) _ ⟨by simp, by simp⟩) fun r5 h5 => ok_bind (someB_ok h5.2 (by omega) 100 _ ⟨by simp, by simp⟩ (by decide)) fun r7 h7 => ok_bind (someB_ok h7.2 (by omega) 100 _ ⟨by simp, by simp⟩ (by decide)) fun r9 h9 => ok_bind (flip_ok h9.2 (by omega) 3 (by omega)) fun r11 h11 => ?_
  have hh : r5.1 ∈ hostsL := (show ∀ x, x ∈ ([[97, 46, 98], [97, 46, 98], [65, 46, 66, 58, 56, 48], [99, 46, 100]] : List Bs) → x ∈ hostsL by decide +kernel) _ h5.1
  refine ok_if (fun _ => ?_) (fun _ => hJ1 _ _ _ _ _ _ _ h3.1 hh h7.1 h9.1 (haP_nil 2) (h11.mono (by omega)))
  exact ok_bind (someA_ok h11 (by omega) 3000 _ ⟨by simp, by simp⟩ (by decide +kernel)) fun r14 h14 => ok_bind (someB_ok h14.2 (by omega) 100 _ ⟨by simp, by simp⟩ (by decide)) fun r16 h16 => ok_g (by simp) (hJ1 _ _ _ _ _ _ _ h3.1 hh h7.1 h9.1 (haP_mono (haP_snoc (haP_nil 0) _ _ h14.1 (by have := h16.1; omega)) (by omega)) (h16.2.mono (by omega)))
theorem addH_ok {n : Nat} (name value : Bs) (c : S_api_Response) (h : haP n c.Headers) (hn : n ≤ 100) (h1 : ascB name = true ∧ name.length ≤ 3000) (h2 : value.length ≤ 30000) : Ok (m_gatemake_Stream_CacheResponse_1 name value c) fun r => haP (n + 1) r.Headers := by
  unfold m_gatemake_Stream_CacheResponse_1
  exact ok_g (by have := h.1; omega) (ok_some (haP_snoc h name value h1 h2))
theorem cacheResponse_ok {k : Int} {s : S_gatemake_Stream} (h : SB k s) (hk : k ≤ 5000) : Ok (m_gatemake_Stream_CacheResponse s) fun r => haP 100 r.1.Headers ∧ SB (k + 200) r.2 := by
  have hJ7 : ∀ (l : List S_api_Header) (b : Bs) (c : List Int) (a n : Int), haP 100 l → SB (k + 200) (S_gatemake_Stream.mk c a) → Ok (gatemake_Stream_CacheResponse_J7 l b c a n) fun r => haP 100 r.1.Headers ∧ SB (k + 200) r.2 := by
    intro l b c a n hl hs
    unfold gatemake_Stream_CacheResponse_J7
    exact ok_some ⟨hl, hs⟩
  have hJ6 : ∀ (c : List Int) (a : Int) (l : List S_api_Header) (n : Int) (b : Bs), haP 50 l → SB (k + 180) (S_gatemake_Stream.mk c a) → Ok (gatemake_Stream_CacheResponse_J6 c a l n b) fun r => haP 100 r.1.Headers ∧ SB (k + 200) r.2 := by
    intro c a l n b hl hs
    unfold gatemake_Stream_CacheResponse_J6
    refine ok_bind (flip_ok hs (by omega) 40 (by omega)) fun r hr => ok_if (fun _ => ?_) (fun _ => hJ7 _ _ _ _ _ (haP_mono hl (by omega)) (hr.mono (by omega)))
    exact ok_bind (odd_ok hr (by omega) 100 599 (by omega)) fun r2 h2 => hJ7 _ _ _ _ _ (haP_mono hl (by omega)) (h2.2.mono (by omega))
  have hJ5 : ∀ (c : List Int) (a : Int) (l : List S_api_Header) (n : Int) (b : Bs), haP 20 l → SB (k + 100) (S_gatemake_Stream.mk c a) → Ok (gatemake_Stream_CacheResponse_J5 c a l n b) fun r => haP 100 r.1.Headers ∧ SB (k + 200) r.2 := by
    intro c a l n b hl hs
    unfold gatemake_Stream_CacheResponse_J5
    refine ok_bind (flip_ok hs (by omega) 30 (by omega)) fun r hr => ok_if (fun _ => ?_) (fun _ => hJ6 _ _ _ _ _ (haP_mono hl (by omega)) (hr.mono (by omega)))
    refine ok_bind (someA_ok hr (by omega) 3000 _ ⟨by simp, by simp⟩ (by decide +kernel)) fun r75 h75 => ok_bind (words_ok2 h75.2 (by omega) 12 (by omega) [44] (by simp) _ ⟨by simp, by simp⟩ (by decide)) fun r77 h77 => ok_bind (someB_ok h77.2 (by omega) 30000 _ ⟨by simp, by simp⟩ (by simp [h77.1])) fun r79 h79 => ?_
    exact ok_bind (addH_ok r75.1 r79.1 (S_api_Response.mk n l b) hl (by omega) h75.1 h79.1) fun r81 h81 => hJ6 _ _ _ _ _ (haP_mono h81 (by omega)) (h79.2.mono (by omega))
  have hJ4 : ∀ (c : List Int) (a : Int) (l : List S_api_Header) (n : Int) (b : Bs), haP 18 l → SB (k + 90) (S_gatemake_Stream.mk c a) → Ok (gatemake_Stream_CacheResponse_J4 c a l n b) fun r => haP 100 r.1.Headers ∧ SB (k + 200) r.2 := by
    intro c a l n b hl hs
    unfold gatemake_Stream_CacheResponse_J4
    refine ok_bind (flip_ok hs (by omega) 6 (by omega)) fun r hr => ok_if (fun _ => ?_) (fun _ => hJ5 _ _ _ _ _ (haP_mono hl (by omega)) (hr.mono (by omega)))
    exact ok_bind (someB_ok hr (by omega) 100 _ ⟨by simp, by simp⟩ (by decide)) fun r63 h63 => ok_bind (addH_ok _ r63.1 (S_api_Response.mk n l b) hl (by omega) ⟨rfl, by simp⟩ (by have := h63.1; omega)) fun r65 h65 => hJ5 _ _ _ _ _ (haP_mono h65 (by omega)) (h63.2.mono (by omega))
  have hJ3 : ∀ (c : List Int) (a : Int) (l : List S_api_Header) (n : Int) (b : Bs), haP 16 l → SB (k + 80) (S_gatemake_Stream.mk c a) → Ok (gatemake_Stream_CacheResponse_J3 c a l n b) fun r => haP 100 r.1.Headers ∧ SB (k + 200) r.2 := by
    intro c a l n b hl hs
    unfold gatemake_Stream_CacheResponse_J3
    refine ok_bind (flip_ok hs (by omega) 4 (by omega)) fun r hr => ok_if (fun _ => ?_) (fun _ => hJ4 _ _ _ _ _ (haP_mono hl (by omega)) (hr.mono (by omega)))
    exact ok_bind (someB_ok hr (by omega) 100 _ ⟨by simp, by simp⟩ (by decide)) fun r51 h51 => ok_bind (addH_ok _ r51.1 (S_api_Response.mk n l b) hl (by omega) ⟨rfl, by simp⟩ (by have := h51.1; omega)) fun r53 h53 => hJ4 _ _ _ _ _ (haP_mono h53 (by omega)) (h51.2.mono (by omega))
  have hJ2 : ∀ (c : List Int) (a : Int) (l : List S_api_Header) (n : Int) (b : Bs), haP 14 l → SB (k + 60) (S_gatemake_Stream.mk c a) → Ok (gatemake_Stream_CacheResponse_J2 c a l n b) fun r => haP 100 r.1.Headers ∧ SB (k + 200) r.2 := by
    intro c a l n b hl hs
    unfold gatemake_Stream_CacheResponse_J2
    refine ok_bind (flip_ok hs (by omega) 2 (by omega)) fun r hr => ok_if (fun _ => ?_) (fun _ => hJ3 _ _ _ _ _ (haP_mono hl (by omega)) (hr.mono (by omega)))
    exact ok_bind (someA_ok hr (by omega) 3000 _ ⟨by simp, by simp⟩ (by decide +kernel)) fun r37 h37 => ok_bind (someB_ok h37.2 (by omega) 100 _ ⟨by simp, by simp⟩ (by decide)) fun r39 h39 => ok_bind (addH_ok r37.1 r39.1 (S_api_Response.mk n l b) hl (by omega) h37.1 (by have := h39.1; omega)) fun r41 h41 => hJ3 _ _ _ _ _ (haP_mono h41 (by omega)) (h39.2.mono (by omega))
  have hJ1 : ∀ (c : List Int) (a : Int) (l : List S_api_Header) (n : Int) (b : Bs), haP 12 l → SB (k + 50) (S_gatemake_Stream.mk c a) → Ok (gatemake_Stream_CacheResponse_J1 c a l n b) fun r => haP 100 r.1.Headers ∧ SB (k + 200) r.2 := by
    intro c a l n b hl hs
    unfold gatemake_Stream_CacheResponse_J1
    refine ok_bind (flip_ok hs (by omega) 3 (by omega)) fun r hr => ok_if (fun _ => ?_) (fun _ => hJ2 _ _ _ _ _ (haP_mono hl (by omega)) (hr.mono (by omega)))
    exact ok_bind (someB_ok hr (by omega) 100 _ ⟨by simp, by simp⟩ (by decide)) fun r25 h25 => ok_bind (addH_ok _ r25.1 (S_api_Response.mk n l b) hl (by omega) ⟨rfl, by simp⟩ (by have := h25.1; omega)) fun r27 h27 => hJ2 _ _ _ _ _ (haP_mono h27 (by omega)) (h25.2.mono (by omega))
  unfold m_gatemake_Stream_CacheResponse
  refine ok_bind (pick_ok h (by omega) _ ⟨by simp, by simp⟩) fun r2 h2 => ok_bind (rep_some _ _ ⟨by omega, by omega, by simp⟩) fun r4 h4 => ok_bind (some_ok h2.2 (by omega) _ ⟨by simp, by simp⟩) fun r6 h6 => ok_bind (flip_ok h6.2 (by omega) 6 (by omega)) fun r8 h8 => ok_if (fun _ => ?_) (fun _ => hJ1 _ _ _ _ _ (haP_nil 12) (h8.mono (by omega)))
  exact ok_bind (someA_ok h8 (by omega) 3000 _ ⟨by simp, by simp⟩ (by decide +kernel)) fun r11 h11 => ok_bind (controlValue_ok h11.2 (by omega)) fun r13 h13 => ok_bind (addH_ok r11.1 r13.1 (S_api_Response.mk r2.1 [] r6.1) (haP_nil 0) (by omega) h11.1 h13.1) fun r15 h15 => hJ1 _ _ _ _ _ (haP_mono h15 (by omega)) (h13.2.mono (by omega))
theorem errs_two (a b : Int) : m_gatelaw2_errs [a, b] = some (if a ≠ 0 then a else b) := by
  unfold m_gatelaw2_errs gatelaw2_errs_E1
  rw [if_pos (by simp)]
  show (gatelaw2_errs_L1 0 a).bind _ = _
  unfold gatelaw2_errs_L1
  by_cases h : a = 0
  · rw [if_neg (by simpa using h), if_neg (by simpa using h)]
    show (gatelaw2_errs_L1 1 b).bind _ = _
    unfold gatelaw2_errs_L1
    by_cases h2 : b = 0
    · rw [if_neg (by simpa using h2), h2]; rfl
    · rw [if_pos (by simpa using h2)]; rfl
  · rw [if_pos (by simpa using h), if_pos h]; rfl
end Go.Proofs.YtbicifgfibafmaaGreatDoor
