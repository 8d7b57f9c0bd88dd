/- Plain: the law PathsNormal is true for every list of numbers. -/
import Derived.Test.YtbejggfkfaibeaaGreatDoorMiYg
import Derived.Test.YtbejggfkfaibeaaGreatDoorUpYg
namespace Go.Proofs.YtbejggfkfaibeaaGreatDoor
set_option linter.unusedVariables false
set_option maxRecDepth 20000
noncomputable def normHostC (s1 : Bs) : Option (Bs × Int) :=
  (isHostC s1).bind fun (r2 : (Bool)) => if !r2 then (some ([], 3)) else ((m_strings_ToLower s1).bind fun (r5 : (Bs)) => (m_strings_Cut r5 [58]).bind fun (r7 : (Bs × Bs × Bool)) => if (((decide (r7.2.1 = [])) || (decide (r7.2.1 = [56, 48]))) || (decide (r7.2.1 = [52, 52, 51]))) then (some (r7.1, 0)) else (if r7.1.length + [58].length ≤ 1000000000 then (if (r7.1 ++ [58]).length + r7.2.1.length ≤ 1000000000 then (some (((r7.1 ++ [58]) ++ r7.2.1), 0)) else none) else none))
noncomputable def hostNk (s : Bs) : Bool := match normHostC s, hostOfC s with
  | some a, some b => decide (a = b)
  | _, _ => false
theorem hostsN_ck : hostsL.all hostNk = true := by decide +kernel
theorem hostN_same {s : Bs} (h : s ∈ hostsL) : ∃ r, m_message_NormalHost s = some r ∧ m_gateref2_HostOf s = some r := by
  have h1 := List.all_eq_true.1 hostsN_ck s h
  have h2 := of_decide_eq_true (List.all_eq_true.1 hosts_len s h)
  have e : m_message_NormalHost s = normHostC s := by
    unfold m_message_NormalHost normHostC
    rw [isHost_eq s (by omega)]
  rw [e, hostOf_eq s (by omega)]
  unfold hostNk at h1
  split at h1
  · rename_i a b e1 e2
    exact ⟨b, by rw [e1, of_decide_eq_true h1], e2⟩
  · cases h1
theorem eqS_self (l : List Bs) (h : l.length ≤ 1000000000) : m_slices_Equal_L_string_string_ l l = some true :=
  gEql_self (fun x7 x10 : Bs => decide (x7 ≠ x10)) (fun x => by simp) l h
theorem pathsJ (r2 r4 : Bs × S_gatemake_Stream) (w : List Bs) (h2 : r2.1 ∈ hostsL) (h4 : r4.1.length ≤ 100000) (hl : w.length ≤ 1000) (hw : ∀ y, y ∈ w → y.length ≤ 1000) : Ok (gatelaw2_PathsNormal_J3 r2 r4 w) (· = true) := by
  obtain ⟨a, a1, a2⟩ := hostN_same h2
  obtain ⟨b1, b2⟩ := path_eq r4.1 h4
  obtain ⟨c, c1, c2, c3⟩ := segs_eq r4.1 h4
  obtain ⟨d, d1, d2⟩ := joinPath_eq w hl hw
  unfold gatelaw2_PathsNormal_J3 gatelaw2_PathsNormal_J4
  rw [a1, a2, b1, b2, c1, c2, d1, d2]
  simp only [Option.bind_some, decide_true, if_true]
  rw [eqS_self _ (by omega), spoken_eq]
  exact ⟨true, rfl, rfl⟩
theorem strN_len (l : List Int) : (strN l).length = l.length := by simp [strN]
theorem pathsNormal_plain (L : List Int) : m_gatelaw2_PathsNormal L = some true := by
  refine ok_eq ?_
  unfold m_gatelaw2_PathsNormal
  have h0 : SB 0 (S_gatemake_Stream.mk L 0) := ⟨by simp, by simp⟩
  refine ok_bind (hostName_ok h0 (by omega)) fun r2 h2 => ok_bind (pathName_ok h2.2 (by omega)) fun r4 h4 => ok_bind (range_ok h4.2 (by omega) 0 4 (by omega)) fun r6 h6 => ok_g (by omega) ?_
  have hJ2 : ∀ (v : List Bs) (c : List Int) (d : Int), SB 1000 (S_gatemake_Stream.mk c d) → v.length ≤ 100 → (∀ y, y ∈ v → y.length ≤ 1000) → Ok (gatelaw2_PathsNormal_J2 r2 r4 v c d) (· = true) := by
    intro v c d hs hv hy
    unfold gatelaw2_PathsNormal_J2
    refine ok_bind (flip_ok hs (by omega) 40 (by omega)) fun r3 h3 => ok_if (fun _ => ?_) (fun _ => pathsJ r2 r4 v h2.1 h4.1 (by omega) hy)
    refine ok_bind (pick_ok h3 (by omega) [100, 101] ⟨by simp, by simp⟩) fun r5 h5 => ?_
    have hm : 100 ≤ r5.1 ∧ r5.1 ≤ 101 := by
      have := h5.1
      simp only [List.mem_cons, List.not_mem_nil, or_false] at this
      omega
    refine ok_g (by omega) (ok_g (by omega) (ok_g (by omega) (ok_g (by omega) ?_)))
    refine ok_bind (someB_ok h5.2 (by omega) 400 _ ⟨by simp, by simp⟩ (fun x hx => ?_)) fun r7 h7 => ?_
    · simp only [List.mem_cons, List.not_mem_nil, or_false] at hx
      rcases hx with e | e | e | e <;> rw [e] <;> first | decide | (rw [strN_len, List.length_replicate]; decide)
    · have e0 : (List.replicate r5.1.toNat ([] : Bs))[0]? = some [] := by
        rw [List.getElem?_replicate, if_pos (by omega)]
      rw [e0]
      refine pathsJ r2 r4 _ h2.1 h4.1 (by simp; omega) fun y hy' => ?_
      rcases List.mem_or_eq_of_mem_set hy' with h | h
      · rw [List.eq_of_mem_replicate h]; simp
      · rw [h]; have := h7.1; omega
  refine ok_rng (fun j (q : List Int × Int × List Bs) => SB (100 + (j : Int)) (S_gatemake_Stream.mk q.1 q.2.1) ∧ q.2.2.length ≤ j ∧ ∀ y, y ∈ q.2.2 → y.length ≤ 1000) _ _ _ ⟨h6.2.mono (by omega), by simp, by simp⟩ ?_ ?_
  · rintro j ⟨c8, c9, l10⟩ _ hj ⟨h3, h5, h7⟩
    simp only at h3 h5 h7 ⊢
    unfold gatelaw2_PathsNormal_L1
    refine ok_bind (someB_ok h3 (by omega) 100 _ ⟨by simp, by simp⟩ (by decide)) fun r8 h8 => ok_g (by omega) (ok_some ?_)
    refine ⟨h8.2.mono (by omega), by simp; omega, fun y hy => ?_⟩
    rcases List.mem_append.1 hy with h | h
    · exact h7 y h
    · have : y = r8.1 := by simpa using h
      rw [this]; have := h8.1; omega
  · rintro ⟨c8, c9, l10⟩ ⟨h3, h5, h7⟩
    simp only at h3 h5 h7 ⊢
    unfold gatelaw2_PathsNormal_E1
    refine ok_bind (flip_ok h3 (by omega) 12 (by omega)) fun r9 h9 => ok_if (fun _ => ?_) (fun _ => hJ2 _ _ _ (h9.mono (by omega)) (by omega) h7)
    refine ok_bind (someB_ok h9 (by omega) 100 _ ⟨by simp, by simp⟩ (by decide)) fun r10 h10 => ok_g (by omega) (hJ2 _ _ _ (h10.2.mono (by omega)) (by simp; omega) fun y hy => ?_)
    rcases List.mem_append.1 hy with h | h
    · exact h7 y h
    · have : y = r10.1 := by simpa using h
      rw [this]; have := h10.1; omega
end Go.Proofs.YtbejggfkfaibeaaGreatDoor
