/- Phases: the program's check and the reference's. -/
import Derived.Test.YtmcegaabopcmfaaPl
namespace Go.Proofs.Ytmcegaabopcmfaa
open Go.RowKit
set_option linter.unusedVariables false
set_option maxRecDepth 20000

structure Pha where
  k : List UInt8
  lo : Int
  hi : Int
  st : Int
  tk : Int
abbrev ph0 : Pha := ⟨[], 0, 0, 0, 0⟩
def phaE (p : Pha) : List V := [vstr p.k, vint p.lo, vint p.hi, vint p.st, vint p.tk]
theorem pha_len (l : List Pha) : ∀ el, el ∈ l.map phaE → el.length = 5 := by
  intro el h; obtain ⟨p, _, rfl⟩ := List.mem_map.1 h; rfl
theorem pha_at {l : List Pha} {k : Nat} (h : k < l.length) : (l.map phaE)[k]? = some (phaE (nth ph0 l k)) := by
  rw [List.getElem?_map, nth_at (d := ph0) h]; rfl
structure PhaOK (ps : List Pha) : Prop where
  len : ps.length ≤ 1000
  ok : ∀ p, p ∈ ps → p.k.length ≤ 1000
def badP (p : Pha) : Bool := decide (p.lo < 0) || decide (p.hi ≤ p.lo) || decide (345686400000 < p.hi) || outB p.st 100 599 || outB p.tk 0 3600000
def ordB (p q : Pha) : Bool := Op.bytesLess p.k q.k || (decide (p.k = q.k) && decide (p.lo < q.hi))
def phAt (xs : List Inst) (ps : List Pha) (k : Nat) : Int :=
  if hasK xs (nth ph0 ps k).k = false then 8 else if badP (nth ph0 ps k) = true then 1 else if (decide (0 < (k : Int)) && ordB (nth ph0 ps k) (nth ph0 ps ((k : Int) - 1).toNat)) = true then 7 else 0
def phF (xs : List Inst) (ps : List Pha) : Int := if 500 < ps.length then 2 else firstErr (phAt xs ps) ps.length
theorem k_upstream_CheckPhases (xs : List Inst) (hok : InsOK xs) (ps : List Pha) (hpo : PhaOK ps)  : Fn Try.prog 32 [vlst (xs.map instE), vlst (ps.map phaE)] (resOf [vint (if ciFault xs ≠ 0 then ciFault xs else phF xs ps)]) := by
  have hle := pha_len ps
  have hln : (ps.map phaE).length = ps.length := by simp
  have hlen := hpo.len
  have hxl := hok.len
  refine ⟨by kernel_rfl, pure_of (us := [vint (if ciFault xs ≠ 0 then ciFault xs else phF xs ps)]) Try.func32 rfl rfl rfl rfl fun X hN => ?_⟩
  refine awp_seq ?_
  refine awp_plain hN rfl ?_
  refine seq_run0 (stp_assign (.dat _) rfl) ?_
  refine awp_seq ?_
  refine awp_seq ?_
  refine awp_plain hN rfl ?_
  first | refine seq_run0 (stp_move (.dat _) rfl) ?_ | refine seq_run0 (stp_move (.ptr _ _) rfl) ?_ | refine seq_run0 (stp_move (.row _ _) rfl) ?_ | refine seq_run0 (stp_move (.rptr _ _ _ _ _) rfl) ?_ | refine seq_run0 (stp_move (.mp _) rfl) ?_
  refine seq_run0 (stp_call (k_upstream_CheckInstances _ hok) ⟨.inl rfl, trivial⟩) ?_
  first | refine seq_run0 (stp_assign (.dat _) rfl) ?_ | refine seq_run0 (stp_assign (.ptr _ _) rfl) ?_ | refine seq_run0 (stp_assign (.row _ _) rfl) ?_ | refine seq_run0 (stp_assign (.rptr _ _ _ _ _) rfl) ?_ | refine seq_run0 (stp_assign (.mp _) rfl) ?_
  refine awp_seq ?_
  refine awp_plain hN rfl ?_
  first | refine seq_run0 (stp_move (.dat _) rfl) ?_ | refine seq_run0 (stp_move (.ptr _ _) rfl) ?_ | refine seq_run0 (stp_move (.row _ _) rfl) ?_ | refine seq_run0 (stp_move (.rptr _ _ _ _ _) rfl) ?_ | refine seq_run0 (stp_move (.mp _) rfl) ?_
  refine seq_run0 (stp_neq rfl rfl) ?_
  refine awp_cond _ rfl (fun h1 => ?_) (fun h1 => ?_)
  · -- yes
    try simp at h1
    refine awp_seq ?_
    refine awp_plain hN rfl ?_
    first | refine seq_run0 (stp_move (.dat _) rfl) ?_ | refine seq_run0 (stp_move (.ptr _ _) rfl) ?_ | refine seq_run0 (stp_move (.row _ _) rfl) ?_ | refine seq_run0 (stp_move (.rptr _ _ _ _ _) rfl) ?_ | refine seq_run0 (stp_move (.mp _) rfl) ?_
    first | refine seq_run0 (stp_assign (.dat _) rfl) ?_ | refine seq_run0 (stp_assign (.ptr _ _) rfl) ?_ | refine seq_run0 (stp_assign (.row _ _) rfl) ?_ | refine seq_run0 (stp_assign (.rptr _ _ _ _ _) rfl) ?_ | refine seq_run0 (stp_assign (.mp _) rfl) ?_
    refine awp_ret ?_
    exact ⟨trivial, .inl (congrArg vint (by rw [if_pos h1])), trivial⟩
  · -- no
    try simp at h1
    refine awp_skip ?_
    refine awp_seq ?_
    refine awp_seq ?_
    refine awp_plain hN rfl ?_
    first | refine seq_run0 (stp_move (.dat _) rfl) ?_ | refine seq_run0 (stp_move (.ptr _ _) rfl) ?_ | refine seq_run0 (stp_move (.row _ _) rfl) ?_ | refine seq_run0 (stp_move (.rptr _ _ _ _ _) rfl) ?_ | refine seq_run0 (stp_move (.mp _) rfl) ?_
    first | refine seq_run0 (stp_len_lst tyU58 rfl) ?_ | refine seq_run1 (stp_len_row tyU58 rfl rfl) rfl ?_ | refine seq_run0 (stp_len_nil tyU58 rfl) ?_
    refine seq_run0 (stp_gtr rfl rfl) ?_
    refine awp_cond _ rfl (fun h2 => ?_) (fun h2 => ?_)
    · -- yes
      try simp at h2
      refine awp_seq ?_
      refine awp_plain hN rfl ?_
      refine seq_run0 (stp_assign (.dat _) rfl) ?_
      refine awp_ret ?_
      exact ⟨trivial, .inl (congrArg vint (by rw [if_neg (by omega)]; unfold phF; rw [if_pos (by omega)])), trivial⟩
    · -- no
      try simp at h2
      refine awp_skip ?_
      refine awp_seq ?_
      refine awp_seq ?_
      refine awp_plain hN rfl ?_
      first | refine seq_run0 (stp_move (.dat _) rfl) ?_ | refine seq_run0 (stp_move (.ptr _ _) rfl) ?_ | refine seq_run0 (stp_move (.row _ _) rfl) ?_ | refine seq_run0 (stp_move (.rptr _ _ _ _ _) rfl) ?_ | refine seq_run0 (stp_move (.mp _) rfl) ?_
      first | refine seq_run0 (stp_len_lst tyU58 rfl) ?_ | refine seq_run1 (stp_len_row tyU58 rfl rfl) rfl ?_ | refine seq_run0 (stp_len_nil tyU58 rfl) ?_
      refine seq_run0 (stp_move (.dat _) rfl) ?_
      refine awp_block ?_
      have hci : phF xs ps = firstErr (phAt xs ps) ps.length := by unfold phF; rw [if_neg (by omega)]
      have hsr : Sorted xs := fun i j hij hj => ci_lt (by omega) (by simp_all) hij hj
      refine awp_loop (fun k : Nat => [(0, .dat (vlst (xs.map instE))), (1, .dat (vlst (ps.map phaE))), (19, .dat (vlst (ps.map phaE))), (20, .dat (vint ((ps.map phaE).length : Int))), (21, .dat (vint (k : Int)))]) (fun k : Nat => []) (fun k : Nat => k ≤ ps.length ∧ firstErr (phAt xs ps) k = 0) (fun k : Nat => ps.length - k) 0 ⟨by omega, rfl⟩ ⟨rfl, rfl, rfl, rfl, rfl, trivial⟩ trivial (fun _ => rfl) (fun k hI => ?_)
      obtain ⟨hk, hu⟩ := hI
      refine awp_seq ?_
      refine awp_plain hN rfl ?_
      refine seq_run0 (stp_lss rfl rfl) ?_
      refine awp_seq ?_
      refine awp_cond _ rfl (fun h3 => ?_) (fun h3 => ?_)
      · -- yes
        try simp at h3
        have hkl : k < ps.length := by omega
        have hat := pha_at hkl
        refine awp_skip ?_
        refine awp_seq ?_
        refine awp_block ?_
        refine awp_seq ?_
        refine awp_plain hN rfl ?_
        first | refine seq_run0 (stp_move (.dat _) rfl) ?_ | refine seq_run0 (stp_move (.ptr _ _) rfl) ?_ | refine seq_run0 (stp_move (.row _ _) rfl) ?_ | refine seq_run0 (stp_move (.rptr _ _ _ _ _) rfl) ?_ | refine seq_run0 (stp_move (.mp _) rfl) ?_
        first | refine seq_run0 (stp_idxE tyE58 rfl rfl (by omega) (by assumption)) ?_ | refine seq_run0 (stp_idxI tyE58 rfl rfl (by omega) (by assumption)) ?_ | refine seq_run1 (stp_idxR tyE58 rfl rfl (by first | rfl | omega | simp) (by first | omega | (simp; omega))) rfl ?_ | refine seq_run1 (stp_idxRI tyE58 rfl rfl (by first | rfl | omega | simp) (by first | omega | (simp; omega))) rfl ?_
        first | refine seq_run1 (stp_loadA tyS125 rfl rfl rfl) rfl ?_ | refine seq_run0 (stp_loadEA tyS125 rfl (by first | assumption | rfl) rfl) ?_ | refine seq_run1 (stp_loadRA tyS125 rfl (by first | rfl | omega | simp) (by first | assumption | exact List.getElem?_set_self (by simp; omega)) rfl) rfl ?_ | refine seq_run0 (stp_loadEP tyS125 rfl (by first | assumption | rfl) rfl) ?_
        refine seq_run2 (stp_alloc 1 tyZ125 rfl) rfl ?_
        first | refine seq_run0 (stp_assign (.dat _) rfl) ?_ | refine seq_run0 (stp_assign (.ptr _ _) rfl) ?_ | refine seq_run0 (stp_assign (.row _ _) rfl) ?_ | refine seq_run0 (stp_assign (.rptr _ _ _ _ _) rfl) ?_ | refine seq_run0 (stp_assign (.mp _) rfl) ?_
        first | refine seq_run2 (stp_storeW tyS125 rfl rfl rfl rfl) rfl ?_ | refine seq_run2 (stp_storeA tyS125 rfl rfl rfl rfl) rfl ?_
        refine awp_seq ?_
        refine awp_seq ?_
        refine awp_plain hN rfl ?_
        first | refine seq_run0 (stp_move (.dat _) rfl) ?_ | refine seq_run0 (stp_move (.ptr _ _) rfl) ?_ | refine seq_run0 (stp_move (.row _ _) rfl) ?_ | refine seq_run0 (stp_move (.rptr _ _ _ _ _) rfl) ?_ | refine seq_run0 (stp_move (.mp _) rfl) ?_
        first | refine seq_run0 (stp_fldP tyF125_0 rfl) ?_ | refine seq_run0 (stp_fldE tyF125_0 rfl) ?_ | refine seq_run0 (stp_fldR tyF125_0 rfl) ?_
        first | refine seq_run1 (stp_load1 tyS9 rfl rfl) rfl ?_ | refine seq_run0 (stp_loadE1 tyS9 rfl (by first | assumption | rfl) rfl) ?_ | refine seq_run1 (stp_loadR1 tyS9 rfl (by first | rfl | omega | simp) (by first | assumption | exact List.getElem?_set_self (by simp; omega)) rfl) rfl ?_
        refine seq_run0 (stp_call (k_upstream_place xs _ (by omega) hsr) ⟨.inl rfl, .inl rfl, trivial⟩) ?_
        first | refine seq_run0 (stp_move (.dat _) rfl) ?_ | refine seq_run0 (stp_move (.ptr _ _) rfl) ?_ | refine seq_run0 (stp_move (.row _ _) rfl) ?_ | refine seq_run0 (stp_move (.rptr _ _ _ _ _) rfl) ?_ | refine seq_run0 (stp_move (.mp _) rfl) ?_
        refine seq_run0 (stp_ext rfl rfl) ?_
        refine seq_run0 (stp_ext rfl rfl) ?_
        first | refine seq_run0 (stp_assign (.dat _) rfl) ?_ | refine seq_run0 (stp_assign (.ptr _ _) rfl) ?_ | refine seq_run0 (stp_assign (.row _ _) rfl) ?_ | refine seq_run0 (stp_assign (.rptr _ _ _ _ _) rfl) ?_ | refine seq_run0 (stp_assign (.mp _) rfl) ?_
        first | refine seq_run0 (stp_assign (.dat _) rfl) ?_ | refine seq_run0 (stp_assign (.ptr _ _) rfl) ?_ | refine seq_run0 (stp_assign (.row _ _) rfl) ?_ | refine seq_run0 (stp_assign (.rptr _ _ _ _ _) rfl) ?_ | refine seq_run0 (stp_assign (.mp _) rfl) ?_
        refine awp_seq ?_
        refine awp_plain hN rfl ?_
        first | refine seq_run0 (stp_move (.dat _) rfl) ?_ | refine seq_run0 (stp_move (.ptr _ _) rfl) ?_ | refine seq_run0 (stp_move (.row _ _) rfl) ?_ | refine seq_run0 (stp_move (.rptr _ _ _ _ _) rfl) ?_ | refine seq_run0 (stp_move (.mp _) rfl) ?_
        refine seq_run0 (stp_not rfl) ?_
        refine awp_cond _ rfl (fun h4 => ?_) (fun h4 => ?_)
        · -- yes
          try simp at h4
          refine awp_seq ?_
          refine awp_plain hN rfl ?_
          refine seq_run0 (stp_assign (.dat _) rfl) ?_
          refine awp_ret ?_
          exact ⟨trivial, .inl (congrArg vint (by rw [if_neg (by omega), hci]; exact fe_stop hu hkl (by unfold phAt; rw [if_pos (by simp_all)]) (by decide))), trivial⟩
        · -- no
          try simp at h4
          refine awp_skip ?_
          refine awp_seq ?_
          refine awp_rjP [(63, .dat (vbool (badP (nth ph0 ps k))))] hN rfl ?_ ?_
          · -- region 12
            first | refine seq_run0 (stp_fldP tyF125_1 rfl) ?_ | refine seq_run0 (stp_fldE tyF125_1 rfl) ?_ | refine seq_run0 (stp_fldR tyF125_1 rfl) ?_
            first | refine seq_run0 (stp_fldP tyF123_0 rfl) ?_ | refine seq_run0 (stp_fldE tyF123_0 rfl) ?_ | refine seq_run0 (stp_fldR tyF123_0 rfl) ?_
            first | refine seq_run1 (stp_load1 tyS3 rfl rfl) rfl ?_ | refine seq_run0 (stp_loadE1 tyS3 rfl (by first | assumption | rfl) rfl) ?_ | refine seq_run1 (stp_loadR1 tyS3 rfl (by first | rfl | omega | simp) (by first | assumption | exact List.getElem?_set_self (by simp; omega)) rfl) rfl ?_
            refine seq_run0 (stp_lss rfl rfl) ?_
            first | refine seq_run0 (stp_move (.dat _) rfl) ?_ | refine seq_run0 (stp_move (.ptr _ _) rfl) ?_ | refine seq_run0 (stp_move (.row _ _) rfl) ?_ | refine seq_run0 (stp_move (.rptr _ _ _ _ _) rfl) ?_ | refine seq_run0 (stp_move (.mp _) rfl) ?_
            refine seq_split (j := 4) rfl rfl (fun h5 => ?_) (fun h5 => ?_) rfl
            · -- guard (4, False): runs
              have qh5 := h5
              try simp at qh5
              first | refine seq_g0 rfl rfl h5 (stp_fldP tyF125_1 rfl) ?_ | refine seq_g0 rfl rfl h5 (stp_fldE tyF125_1 rfl) ?_ | refine seq_g0 rfl rfl h5 (stp_fldR tyF125_1 rfl) ?_
              first | refine seq_g0 rfl rfl h5 (stp_fldP tyF123_0 rfl) ?_ | refine seq_g0 rfl rfl h5 (stp_fldE tyF123_0 rfl) ?_ | refine seq_g0 rfl rfl h5 (stp_fldR tyF123_0 rfl) ?_
              first | refine seq_g1 rfl rfl h5 (stp_load1 tyS3 rfl rfl) rfl ?_ | refine seq_g0 rfl rfl h5 (stp_loadE1 tyS3 rfl (by first | assumption | rfl) rfl) ?_ | refine seq_g1 rfl rfl h5 (stp_loadR1 tyS3 rfl (by first | rfl | omega | simp) (by first | assumption | exact List.getElem?_set_self (by simp; omega)) rfl) rfl ?_
              first | refine seq_g0 rfl rfl h5 (stp_fldP tyF125_1 rfl) ?_ | refine seq_g0 rfl rfl h5 (stp_fldE tyF125_1 rfl) ?_ | refine seq_g0 rfl rfl h5 (stp_fldR tyF125_1 rfl) ?_
              first | refine seq_g0 rfl rfl h5 (stp_fldP tyF123_1 rfl) ?_ | refine seq_g0 rfl rfl h5 (stp_fldE tyF123_1 rfl) ?_ | refine seq_g0 rfl rfl h5 (stp_fldR tyF123_1 rfl) ?_
              first | refine seq_g1 rfl rfl h5 (stp_load1 tyS3 rfl rfl) rfl ?_ | refine seq_g0 rfl rfl h5 (stp_loadE1 tyS3 rfl (by first | assumption | rfl) rfl) ?_ | refine seq_g1 rfl rfl h5 (stp_loadR1 tyS3 rfl (by first | rfl | omega | simp) (by first | assumption | exact List.getElem?_set_self (by simp; omega)) rfl) rfl ?_
              refine seq_g0 rfl rfl h5 (stp_geq rfl rfl) ?_
              refine seq_run0 (stp_pick_f rfl h5 rfl) ?_
              first | refine seq_run0 (stp_move (.dat _) rfl) ?_ | refine seq_run0 (stp_move (.ptr _ _) rfl) ?_ | refine seq_run0 (stp_move (.row _ _) rfl) ?_ | refine seq_run0 (stp_move (.rptr _ _ _ _ _) rfl) ?_ | refine seq_run0 (stp_move (.mp _) rfl) ?_
              refine seq_split (j := 13) rfl rfl (fun h6 => ?_) (fun h6 => ?_) rfl
              · -- guard (13, False): runs
                have qh6 := h6
                try simp at qh6
                first | refine seq_g0 rfl rfl h6 (stp_fldP tyF125_1 rfl) ?_ | refine seq_g0 rfl rfl h6 (stp_fldE tyF125_1 rfl) ?_ | refine seq_g0 rfl rfl h6 (stp_fldR tyF125_1 rfl) ?_
                first | refine seq_g0 rfl rfl h6 (stp_fldP tyF123_1 rfl) ?_ | refine seq_g0 rfl rfl h6 (stp_fldE tyF123_1 rfl) ?_ | refine seq_g0 rfl rfl h6 (stp_fldR tyF123_1 rfl) ?_
                first | refine seq_g1 rfl rfl h6 (stp_load1 tyS3 rfl rfl) rfl ?_ | refine seq_g0 rfl rfl h6 (stp_loadE1 tyS3 rfl (by first | assumption | rfl) rfl) ?_ | refine seq_g1 rfl rfl h6 (stp_loadR1 tyS3 rfl (by first | rfl | omega | simp) (by first | assumption | exact List.getElem?_set_self (by simp; omega)) rfl) rfl ?_
                refine seq_g0 rfl rfl h6 (stp_gtr rfl rfl) ?_
                refine seq_run0 (stp_pick_f rfl h6 rfl) ?_
                first | refine seq_run0 (stp_move (.dat _) rfl) ?_ | refine seq_run0 (stp_move (.ptr _ _) rfl) ?_ | refine seq_run0 (stp_move (.row _ _) rfl) ?_ | refine seq_run0 (stp_move (.rptr _ _ _ _ _) rfl) ?_ | refine seq_run0 (stp_move (.mp _) rfl) ?_
                refine seq_split (j := 19) rfl rfl (fun h7 => ?_) (fun h7 => ?_) rfl
                · -- guard (19, False): runs
                  have qh7 := h7
                  try simp at qh7
                  first | refine seq_g0 rfl rfl h7 (stp_fldP tyF125_2 rfl) ?_ | refine seq_g0 rfl rfl h7 (stp_fldE tyF125_2 rfl) ?_ | refine seq_g0 rfl rfl h7 (stp_fldR tyF125_2 rfl) ?_
                  first | refine seq_g1 rfl rfl h7 (stp_load1 tyS3 rfl rfl) rfl ?_ | refine seq_g0 rfl rfl h7 (stp_loadE1 tyS3 rfl (by first | assumption | rfl) rfl) ?_ | refine seq_g1 rfl rfl h7 (stp_loadR1 tyS3 rfl (by first | rfl | omega | simp) (by first | assumption | exact List.getElem?_set_self (by simp; omega)) rfl) rfl ?_
                  refine seq_g0 rfl rfl h7 (stp_call (k_kit_Outside _ _ _) ⟨.inl rfl, .inl rfl, .inl rfl, trivial⟩) ?_
                  refine seq_run0 (stp_pick_f rfl h7 rfl) ?_
                  first | refine seq_run0 (stp_move (.dat _) rfl) ?_ | refine seq_run0 (stp_move (.ptr _ _) rfl) ?_ | refine seq_run0 (stp_move (.row _ _) rfl) ?_ | refine seq_run0 (stp_move (.rptr _ _ _ _ _) rfl) ?_ | refine seq_run0 (stp_move (.mp _) rfl) ?_
                  refine seq_split (j := 24) rfl rfl (fun h8 => ?_) (fun h8 => ?_) rfl
                  · -- guard (24, False): runs
                    have qh8 := h8
                    try simp at qh8
                    first | refine seq_g0 rfl rfl h8 (stp_fldP tyF125_3 rfl) ?_ | refine seq_g0 rfl rfl h8 (stp_fldE tyF125_3 rfl) ?_ | refine seq_g0 rfl rfl h8 (stp_fldR tyF125_3 rfl) ?_
                    first | refine seq_g1 rfl rfl h8 (stp_load1 tyS3 rfl rfl) rfl ?_ | refine seq_g0 rfl rfl h8 (stp_loadE1 tyS3 rfl (by first | assumption | rfl) rfl) ?_ | refine seq_g1 rfl rfl h8 (stp_loadR1 tyS3 rfl (by first | rfl | omega | simp) (by first | assumption | exact List.getElem?_set_self (by simp; omega)) rfl) rfl ?_
                    refine seq_g0 rfl rfl h8 (stp_call (k_kit_Outside _ _ _) ⟨.inl rfl, .inl rfl, .inl rfl, trivial⟩) ?_
                    refine seq_run0 (stp_pick_f rfl h8 rfl) ?_
                    exact ⟨rfl, jb (by unfold badP; simp_all <;> (intros; omega)), trivial⟩
                  · -- guard (24, False): is left out
                    have qh8 := h8
                    try simp at qh8
                    refine seq_skip rfl rfl h8 ?_
                    refine seq_skip rfl rfl h8 ?_
                    refine seq_skip rfl rfl h8 ?_
                    refine seq_run0 (stp_pick_t' rfl h8 rfl) ?_
                    exact ⟨rfl, jb (by unfold badP; simp_all <;> (intros; omega)), trivial⟩
                · -- guard (19, False): is left out
                  have qh7 := h7
                  try simp at qh7
                  refine seq_skip rfl rfl h7 ?_
                  refine seq_skip rfl rfl h7 ?_
                  refine seq_skip rfl rfl h7 ?_
                  refine seq_run0 (stp_pick_t' rfl h7 rfl) ?_
                  first | refine seq_run0 (stp_move (.dat _) rfl) ?_ | refine seq_run0 (stp_move (.ptr _ _) rfl) ?_ | refine seq_run0 (stp_move (.row _ _) rfl) ?_ | refine seq_run0 (stp_move (.rptr _ _ _ _ _) rfl) ?_ | refine seq_run0 (stp_move (.mp _) rfl) ?_
                  refine seq_skip rfl rfl rfl ?_
                  refine seq_skip rfl rfl rfl ?_
                  refine seq_skip rfl rfl rfl ?_
                  refine seq_run0 (stp_pick_t rfl rfl rfl) ?_
                  exact ⟨rfl, jb (by unfold badP; simp_all <;> (intros; omega)), trivial⟩
              · -- guard (13, False): is left out
                have qh6 := h6
                try simp at qh6
                refine seq_skip rfl rfl h6 ?_
                refine seq_skip rfl rfl h6 ?_
                refine seq_skip rfl rfl h6 ?_
                refine seq_skip rfl rfl h6 ?_
                refine seq_run0 (stp_pick_t' rfl h6 rfl) ?_
                first | refine seq_run0 (stp_move (.dat _) rfl) ?_ | refine seq_run0 (stp_move (.ptr _ _) rfl) ?_ | refine seq_run0 (stp_move (.row _ _) rfl) ?_ | refine seq_run0 (stp_move (.rptr _ _ _ _ _) rfl) ?_ | refine seq_run0 (stp_move (.mp _) rfl) ?_
                refine seq_skip rfl rfl rfl ?_
                refine seq_skip rfl rfl rfl ?_
                refine seq_skip rfl rfl rfl ?_
                refine seq_run0 (stp_pick_t rfl rfl rfl) ?_
                first | refine seq_run0 (stp_move (.dat _) rfl) ?_ | refine seq_run0 (stp_move (.ptr _ _) rfl) ?_ | refine seq_run0 (stp_move (.row _ _) rfl) ?_ | refine seq_run0 (stp_move (.rptr _ _ _ _ _) rfl) ?_ | refine seq_run0 (stp_move (.mp _) rfl) ?_
                refine seq_skip rfl rfl rfl ?_
                refine seq_skip rfl rfl rfl ?_
                refine seq_skip rfl rfl rfl ?_
                refine seq_run0 (stp_pick_t rfl rfl rfl) ?_
                exact ⟨rfl, jb (by unfold badP; simp_all <;> (intros; omega)), trivial⟩
            · -- guard (4, False): is left out
              have qh5 := h5
              try simp at qh5
              refine seq_skip rfl rfl h5 ?_
              refine seq_skip rfl rfl h5 ?_
              refine seq_skip rfl rfl h5 ?_
              refine seq_skip rfl rfl h5 ?_
              refine seq_skip rfl rfl h5 ?_
              refine seq_skip rfl rfl h5 ?_
              refine seq_skip rfl rfl h5 ?_
              refine seq_run0 (stp_pick_t' rfl h5 rfl) ?_
              first | refine seq_run0 (stp_move (.dat _) rfl) ?_ | refine seq_run0 (stp_move (.ptr _ _) rfl) ?_ | refine seq_run0 (stp_move (.row _ _) rfl) ?_ | refine seq_run0 (stp_move (.rptr _ _ _ _ _) rfl) ?_ | refine seq_run0 (stp_move (.mp _) rfl) ?_
              refine seq_skip rfl rfl rfl ?_
              refine seq_skip rfl rfl rfl ?_
              refine seq_skip rfl rfl rfl ?_
              refine seq_skip rfl rfl rfl ?_
              refine seq_run0 (stp_pick_t rfl rfl rfl) ?_
              first | refine seq_run0 (stp_move (.dat _) rfl) ?_ | refine seq_run0 (stp_move (.ptr _ _) rfl) ?_ | refine seq_run0 (stp_move (.row _ _) rfl) ?_ | refine seq_run0 (stp_move (.rptr _ _ _ _ _) rfl) ?_ | refine seq_run0 (stp_move (.mp _) rfl) ?_
              refine seq_skip rfl rfl rfl ?_
              refine seq_skip rfl rfl rfl ?_
              refine seq_skip rfl rfl rfl ?_
              refine seq_run0 (stp_pick_t rfl rfl rfl) ?_
              first | refine seq_run0 (stp_move (.dat _) rfl) ?_ | refine seq_run0 (stp_move (.ptr _ _) rfl) ?_ | refine seq_run0 (stp_move (.row _ _) rfl) ?_ | refine seq_run0 (stp_move (.rptr _ _ _ _ _) rfl) ?_ | refine seq_run0 (stp_move (.mp _) rfl) ?_
              refine seq_skip rfl rfl rfl ?_
              refine seq_skip rfl rfl rfl ?_
              refine seq_skip rfl rfl rfl ?_
              refine seq_run0 (stp_pick_t rfl rfl rfl) ?_
              exact ⟨rfl, jb (by unfold badP; simp_all <;> (intros; omega)), trivial⟩
          · -- behind region 12
            refine awp_cond _ rfl (fun h9 => ?_) (fun h9 => ?_)
            · -- yes
              try simp at h9
              refine awp_seq ?_
              refine awp_plain hN rfl ?_
              refine seq_run0 (stp_assign (.dat _) rfl) ?_
              refine awp_ret ?_
              exact ⟨trivial, .inl (congrArg vint (by rw [if_neg (by omega), hci]; exact fe_stop hu hkl (by unfold phAt; rw [if_neg (by simp_all), if_pos (by simp_all)]) (by decide))), trivial⟩
            · -- no
              try simp at h9
              refine awp_skip ?_
              refine awp_seq ?_
              refine awp_seq ?_
              refine awp_plain hN rfl ?_
              first | refine seq_run0 (stp_move (.dat _) rfl) ?_ | refine seq_run0 (stp_move (.ptr _ _) rfl) ?_ | refine seq_run0 (stp_move (.row _ _) rfl) ?_ | refine seq_run0 (stp_move (.rptr _ _ _ _ _) rfl) ?_ | refine seq_run0 (stp_move (.mp _) rfl) ?_
              refine seq_run0 (stp_eql rfl rfl) ?_
              refine awp_cond _ rfl (fun h10 => ?_) (fun h10 => ?_)
              · -- yes
                try simp at h10
                refine awp_exit ?_
                refine awp_plain hN rfl ?_
                refine seq_run0 (stp_add rfl rfl (by omega)) ?_
                first | refine seq_run0 (stp_move (.dat _) rfl) ?_ | refine seq_run0 (stp_move (.ptr _ _) rfl) ?_ | refine seq_run0 (stp_move (.row _ _) rfl) ?_ | refine seq_run0 (stp_move (.rptr _ _ _ _ _) rfl) ?_ | refine seq_run0 (stp_move (.mp _) rfl) ?_
                exact ⟨k + 1, ⟨by omega, firstErr_step hu (by unfold phAt; rw [if_neg (by simp_all), if_neg (by simp_all), if_neg (by simp_all)])⟩, by omega, ⟨rfl, rfl, rfl, rfl, rfl, trivial⟩, trivial⟩
              · -- no
                try simp at h10
                have hkp : (((k : Int) - 1).toNat : Int) = (k : Int) - 1 := by omega
                have hat2 := pha_at (l := ps) (k := ((k : Int) - 1).toNat) (by omega)
                refine awp_skip ?_
                refine awp_seq ?_
                refine awp_plain hN rfl ?_
                first | refine seq_run0 (stp_move (.dat _) rfl) ?_ | refine seq_run0 (stp_move (.ptr _ _) rfl) ?_ | refine seq_run0 (stp_move (.row _ _) rfl) ?_ | refine seq_run0 (stp_move (.rptr _ _ _ _ _) rfl) ?_ | refine seq_run0 (stp_move (.mp _) rfl) ?_
                first | refine seq_run0 (stp_move (.dat _) rfl) ?_ | refine seq_run0 (stp_move (.ptr _ _) rfl) ?_ | refine seq_run0 (stp_move (.row _ _) rfl) ?_ | refine seq_run0 (stp_move (.rptr _ _ _ _ _) rfl) ?_ | refine seq_run0 (stp_move (.mp _) rfl) ?_
                refine seq_run0 (stp_sub rfl rfl (by omega)) ?_
                first | refine seq_run0 (stp_idxE tyE58 rfl rfl (by omega) (by assumption)) ?_ | refine seq_run0 (stp_idxI tyE58 rfl rfl (by omega) (by assumption)) ?_ | refine seq_run1 (stp_idxR tyE58 rfl rfl (by first | rfl | omega | simp) (by first | omega | (simp; omega))) rfl ?_ | refine seq_run1 (stp_idxRI tyE58 rfl rfl (by first | rfl | omega | simp) (by first | omega | (simp; omega))) rfl ?_
                first | refine seq_run1 (stp_loadA tyS125 rfl rfl rfl) rfl ?_ | refine seq_run0 (stp_loadEA tyS125 rfl (by first | assumption | rfl) rfl) ?_ | refine seq_run1 (stp_loadRA tyS125 rfl (by first | rfl | omega | simp) (by first | assumption | exact List.getElem?_set_self (by simp; omega)) rfl) rfl ?_ | refine seq_run0 (stp_loadEP tyS125 rfl (by first | assumption | rfl) rfl) ?_
                refine seq_run2 (stp_alloc 2 tyZ125 rfl) rfl ?_
                first | refine seq_run2 (stp_storeW tyS125 rfl rfl rfl rfl) rfl ?_ | refine seq_run2 (stp_storeA tyS125 rfl rfl rfl rfl) rfl ?_
                refine awp_rjP [(91, .dat (vbool (ordB (nth ph0 ps k) (nth ph0 ps ((k : Int) - 1).toNat))))] hN rfl ?_ ?_
                · -- region 16
                  first | refine seq_run0 (stp_fldP tyF125_0 rfl) ?_ | refine seq_run0 (stp_fldE tyF125_0 rfl) ?_ | refine seq_run0 (stp_fldR tyF125_0 rfl) ?_
                  first | refine seq_run1 (stp_load1 tyS9 rfl rfl) rfl ?_ | refine seq_run0 (stp_loadE1 tyS9 rfl (by first | assumption | rfl) rfl) ?_ | refine seq_run1 (stp_loadR1 tyS9 rfl (by first | rfl | omega | simp) (by first | assumption | exact List.getElem?_set_self (by simp; omega)) rfl) rfl ?_
                  first | refine seq_run0 (stp_fldP tyF125_0 rfl) ?_ | refine seq_run0 (stp_fldE tyF125_0 rfl) ?_ | refine seq_run0 (stp_fldR tyF125_0 rfl) ?_
                  first | refine seq_run1 (stp_load1 tyS9 rfl rfl) rfl ?_ | refine seq_run0 (stp_loadE1 tyS9 rfl (by first | assumption | rfl) rfl) ?_ | refine seq_run1 (stp_loadR1 tyS9 rfl (by first | rfl | omega | simp) (by first | assumption | exact List.getElem?_set_self (by simp; omega)) rfl) rfl ?_
                  refine seq_run0 (stp_slss rfl rfl) ?_
                  first | refine seq_run0 (stp_move (.dat _) rfl) ?_ | refine seq_run0 (stp_move (.ptr _ _) rfl) ?_ | refine seq_run0 (stp_move (.row _ _) rfl) ?_ | refine seq_run0 (stp_move (.rptr _ _ _ _ _) rfl) ?_ | refine seq_run0 (stp_move (.mp _) rfl) ?_
                  refine seq_split (j := 5) rfl rfl (fun h11 => ?_) (fun h11 => ?_) rfl
                  · -- guard (5, False): runs
                    have qh11 := h11
                    try simp at qh11
                    first | refine seq_g0 rfl rfl h11 (stp_fldP tyF125_0 rfl) ?_ | refine seq_g0 rfl rfl h11 (stp_fldE tyF125_0 rfl) ?_ | refine seq_g0 rfl rfl h11 (stp_fldR tyF125_0 rfl) ?_
                    first | refine seq_g1 rfl rfl h11 (stp_load1 tyS9 rfl rfl) rfl ?_ | refine seq_g0 rfl rfl h11 (stp_loadE1 tyS9 rfl (by first | assumption | rfl) rfl) ?_ | refine seq_g1 rfl rfl h11 (stp_loadR1 tyS9 rfl (by first | rfl | omega | simp) (by first | assumption | exact List.getElem?_set_self (by simp; omega)) rfl) rfl ?_
                    first | refine seq_g0 rfl rfl h11 (stp_fldP tyF125_0 rfl) ?_ | refine seq_g0 rfl rfl h11 (stp_fldE tyF125_0 rfl) ?_ | refine seq_g0 rfl rfl h11 (stp_fldR tyF125_0 rfl) ?_
                    first | refine seq_g1 rfl rfl h11 (stp_load1 tyS9 rfl rfl) rfl ?_ | refine seq_g0 rfl rfl h11 (stp_loadE1 tyS9 rfl (by first | assumption | rfl) rfl) ?_ | refine seq_g1 rfl rfl h11 (stp_loadR1 tyS9 rfl (by first | rfl | omega | simp) (by first | assumption | exact List.getElem?_set_self (by simp; omega)) rfl) rfl ?_
                    refine seq_g0 rfl rfl h11 (stp_seql rfl rfl) ?_
                    first | refine seq_g0 rfl rfl h11 (stp_move (.dat _) rfl) ?_ | refine seq_g0 rfl rfl h11 (stp_move (.ptr _ _) rfl) ?_ | refine seq_g0 rfl rfl h11 (stp_move (.row _ _) rfl) ?_ | refine seq_g0 rfl rfl h11 (stp_move (.rptr _ _ _ _ _) rfl) ?_ | refine seq_g0 rfl rfl h11 (stp_move (.mp _) rfl) ?_
                    refine seq_split (j := 11) rfl rfl (fun h12 => ?_) (fun h12 => ?_) rfl
                    · -- guard (11, True): runs
                      have qh12 := h12
                      try simp at qh12
                      first | refine seq_g0 rfl rfl h12 (stp_fldP tyF125_1 rfl) ?_ | refine seq_g0 rfl rfl h12 (stp_fldE tyF125_1 rfl) ?_ | refine seq_g0 rfl rfl h12 (stp_fldR tyF125_1 rfl) ?_
                      first | refine seq_g0 rfl rfl h12 (stp_fldP tyF123_0 rfl) ?_ | refine seq_g0 rfl rfl h12 (stp_fldE tyF123_0 rfl) ?_ | refine seq_g0 rfl rfl h12 (stp_fldR tyF123_0 rfl) ?_
                      first | refine seq_g1 rfl rfl h12 (stp_load1 tyS3 rfl rfl) rfl ?_ | refine seq_g0 rfl rfl h12 (stp_loadE1 tyS3 rfl (by first | assumption | rfl) rfl) ?_ | refine seq_g1 rfl rfl h12 (stp_loadR1 tyS3 rfl (by first | rfl | omega | simp) (by first | assumption | exact List.getElem?_set_self (by simp; omega)) rfl) rfl ?_
                      first | refine seq_g0 rfl rfl h12 (stp_fldP tyF125_1 rfl) ?_ | refine seq_g0 rfl rfl h12 (stp_fldE tyF125_1 rfl) ?_ | refine seq_g0 rfl rfl h12 (stp_fldR tyF125_1 rfl) ?_
                      first | refine seq_g0 rfl rfl h12 (stp_fldP tyF123_1 rfl) ?_ | refine seq_g0 rfl rfl h12 (stp_fldE tyF123_1 rfl) ?_ | refine seq_g0 rfl rfl h12 (stp_fldR tyF123_1 rfl) ?_
                      first | refine seq_g1 rfl rfl h12 (stp_load1 tyS3 rfl rfl) rfl ?_ | refine seq_g0 rfl rfl h12 (stp_loadE1 tyS3 rfl (by first | assumption | rfl) rfl) ?_ | refine seq_g1 rfl rfl h12 (stp_loadR1 tyS3 rfl (by first | rfl | omega | simp) (by first | assumption | exact List.getElem?_set_self (by simp; omega)) rfl) rfl ?_
                      refine seq_g0 rfl rfl h12 (stp_lss rfl rfl) ?_
                      refine seq_g0 rfl rfl h11 (stp_pick_t rfl h12 rfl) ?_
                      refine seq_run0 (stp_pick_f rfl h11 rfl) ?_
                      exact ⟨rfl, jb (by unfold ordB; simp_all), trivial⟩
                    · -- guard (11, True): is left out
                      have qh12 := h12
                      try simp at qh12
                      refine seq_skip rfl rfl h12 ?_
                      refine seq_skip rfl rfl h12 ?_
                      refine seq_skip rfl rfl h12 ?_
                      refine seq_skip rfl rfl h12 ?_
                      refine seq_skip rfl rfl h12 ?_
                      refine seq_skip rfl rfl h12 ?_
                      refine seq_skip rfl rfl h12 ?_
                      refine seq_g0 rfl rfl h11 (stp_pick_f' rfl h12 rfl) ?_
                      refine seq_run0 (stp_pick_f rfl h11 rfl) ?_
                      exact ⟨rfl, jb (by unfold ordB; simp_all), trivial⟩
                  · -- guard (5, False): is left out
                    have qh11 := h11
                    try simp at qh11
                    refine seq_skip rfl rfl h11 ?_
                    refine seq_skip rfl rfl h11 ?_
                    refine seq_skip rfl rfl h11 ?_
                    refine seq_skip rfl rfl h11 ?_
                    refine seq_skip rfl rfl h11 ?_
                    refine seq_skip rfl rfl h11 ?_
                    refine seq_skipU rfl rfl ?_
                    refine seq_skipU rfl rfl ?_
                    refine seq_skipU rfl rfl ?_
                    refine seq_skipU rfl rfl ?_
                    refine seq_skipU rfl rfl ?_
                    refine seq_skipU rfl rfl ?_
                    refine seq_skipU rfl rfl ?_
                    refine seq_skip rfl rfl h11 ?_
                    refine seq_run0 (stp_pick_t' rfl h11 rfl) ?_
                    exact ⟨rfl, jb (by unfold ordB; simp_all), trivial⟩
                · -- behind region 16
                  refine awp_cond _ rfl (fun h13 => ?_) (fun h13 => ?_)
                  · -- yes
                    try simp at h13
                    refine awp_seq ?_
                    refine awp_plain hN rfl ?_
                    refine seq_run0 (stp_assign (.dat _) rfl) ?_
                    refine awp_ret ?_
                    exact ⟨trivial, .inl (congrArg vint (by rw [if_neg (by omega), hci]; exact fe_stop hu hkl (by unfold phAt; rw [if_neg (by simp_all), if_neg (by simp_all), if_pos (by simp_all; omega)]) (by decide))), trivial⟩
                  · -- no
                    try simp at h13
                    refine awp_skip ?_
                    refine awp_plain hN rfl ?_
                    refine seq_run0 (stp_add rfl rfl (by omega)) ?_
                    first | refine seq_run0 (stp_move (.dat _) rfl) ?_ | refine seq_run0 (stp_move (.ptr _ _) rfl) ?_ | refine seq_run0 (stp_move (.row _ _) rfl) ?_ | refine seq_run0 (stp_move (.rptr _ _ _ _ _) rfl) ?_ | refine seq_run0 (stp_move (.mp _) rfl) ?_
                    exact ⟨k + 1, ⟨by omega, firstErr_step hu (by unfold phAt; rw [if_neg (by simp_all), if_neg (by simp_all), if_neg (by simp_all)])⟩, by omega, ⟨rfl, rfl, rfl, rfl, rfl, trivial⟩, trivial⟩
      · -- no
        try simp at h3
        refine awp_exit ?_
        refine awp_seq ?_
        refine awp_plain hN rfl ?_
        refine seq_run0 (stp_assign (.dat _) rfl) ?_
        refine awp_ret ?_
        exact ⟨trivial, .inl (congrArg vint (by rw [if_neg (by omega), hci]; exact fe_end hu (by omega) hk)), trivial⟩
theorem idx_has (xs : List Inst) (l : List UInt8) : decide (idxF (fun x => decide (x.1 = l)) xs 0 < 0) = !hasK xs l := by
  have := idxF_any (fun x => decide (x.1 = l)) xs
  unfold hasK
  rw [← this]
  by_cases h : 0 ≤ idxF (fun x => decide (x.1 = l)) xs 0
  · simp [h]
  · simp [h]; omega
theorem k_gateref2_PhasesFault (xs : List Inst) (hxl : xs.length ≤ 1000) (ps : List Pha) (hpo : PhaOK ps)  : Fn Try.prog 27 [vlst (xs.map instE), vlst (ps.map phaE)] (resOf [vint (phF xs ps)]) := by
  have hle := pha_len ps
  have hln : (ps.map phaE).length = ps.length := by simp
  have hlen := hpo.len
  refine ⟨by kernel_rfl, pure_of (us := [vint (phF xs ps)]) Try.func27 rfl rfl rfl rfl fun X hN => ?_⟩
  refine awp_seq ?_
  refine awp_plain hN rfl ?_
  refine seq_run0 (stp_assign (.dat _) rfl) ?_
  refine awp_seq ?_
  refine awp_seq ?_
  refine awp_plain hN rfl ?_
  first | refine seq_run0 (stp_move (.dat _) rfl) ?_ | refine seq_run0 (stp_move (.ptr _ _) rfl) ?_ | refine seq_run0 (stp_move (.row _ _) rfl) ?_ | refine seq_run0 (stp_move (.rptr _ _ _ _ _) rfl) ?_ | refine seq_run0 (stp_move (.mp _) rfl) ?_
  first | refine seq_run0 (stp_len_lst tyU58 rfl) ?_ | refine seq_run1 (stp_len_row tyU58 rfl rfl) rfl ?_ | refine seq_run0 (stp_len_nil tyU58 rfl) ?_
  refine seq_run0 (stp_gtr rfl rfl) ?_
  refine awp_cond _ rfl (fun h1 => ?_) (fun h1 => ?_)
  · -- yes
    try simp at h1
    refine awp_seq ?_
    refine awp_plain hN rfl ?_
    refine seq_run0 (stp_assign (.dat _) rfl) ?_
    refine awp_ret ?_
    exact ⟨trivial, .inl (congrArg vint (by unfold phF; rw [if_pos (by omega)])), trivial⟩
  · -- no
    try simp at h1
    refine awp_skip ?_
    refine awp_seq ?_
    refine awp_seq ?_
    refine awp_plain hN rfl ?_
    first | refine seq_run0 (stp_move (.dat _) rfl) ?_ | refine seq_run0 (stp_move (.ptr _ _) rfl) ?_ | refine seq_run0 (stp_move (.row _ _) rfl) ?_ | refine seq_run0 (stp_move (.rptr _ _ _ _ _) rfl) ?_ | refine seq_run0 (stp_move (.mp _) rfl) ?_
    first | refine seq_run0 (stp_len_lst tyU58 rfl) ?_ | refine seq_run1 (stp_len_row tyU58 rfl rfl) rfl ?_ | refine seq_run0 (stp_len_nil tyU58 rfl) ?_
    refine seq_run0 (stp_move (.dat _) rfl) ?_
    refine awp_block ?_
    have hci : phF xs ps = firstErr (phAt xs ps) ps.length := by unfold phF; rw [if_neg (by omega)]
    refine awp_loop (fun k : Nat => [(0, .dat (vlst (xs.map instE))), (1, .dat (vlst (ps.map phaE))), (10, .dat (vlst (ps.map phaE))), (11, .dat (vint ((ps.map phaE).length : Int))), (12, .dat (vint (k : Int)))]) (fun k : Nat => []) (fun k : Nat => k ≤ ps.length ∧ firstErr (phAt xs ps) k = 0) (fun k : Nat => ps.length - k) 0 ⟨by omega, rfl⟩ ⟨rfl, rfl, rfl, rfl, rfl, trivial⟩ trivial (fun _ => rfl) (fun k hI => ?_)
    obtain ⟨hk, hu⟩ := hI
    refine awp_seq ?_
    refine awp_plain hN rfl ?_
    refine seq_run0 (stp_lss rfl rfl) ?_
    refine awp_seq ?_
    refine awp_cond _ rfl (fun h2 => ?_) (fun h2 => ?_)
    · -- yes
      try simp at h2
      have hkl : k < ps.length := by omega
      have hat := pha_at hkl
      have hix := idx_has xs (nth ph0 ps k).k
      refine awp_skip ?_
      refine awp_seq ?_
      refine awp_block ?_
      refine awp_seq ?_
      refine awp_plain hN rfl ?_
      first | refine seq_run0 (stp_move (.dat _) rfl) ?_ | refine seq_run0 (stp_move (.ptr _ _) rfl) ?_ | refine seq_run0 (stp_move (.row _ _) rfl) ?_ | refine seq_run0 (stp_move (.rptr _ _ _ _ _) rfl) ?_ | refine seq_run0 (stp_move (.mp _) rfl) ?_
      first | refine seq_run0 (stp_idxE tyE58 rfl rfl (by omega) (by assumption)) ?_ | refine seq_run0 (stp_idxI tyE58 rfl rfl (by omega) (by assumption)) ?_ | refine seq_run1 (stp_idxR tyE58 rfl rfl (by first | rfl | omega | simp) (by first | omega | (simp; omega))) rfl ?_ | refine seq_run1 (stp_idxRI tyE58 rfl rfl (by first | rfl | omega | simp) (by first | omega | (simp; omega))) rfl ?_
      first | refine seq_run1 (stp_loadA tyS125 rfl rfl rfl) rfl ?_ | refine seq_run0 (stp_loadEA tyS125 rfl (by first | assumption | rfl) rfl) ?_ | refine seq_run1 (stp_loadRA tyS125 rfl (by first | rfl | omega | simp) (by first | assumption | exact List.getElem?_set_self (by simp; omega)) rfl) rfl ?_ | refine seq_run0 (stp_loadEP tyS125 rfl (by first | assumption | rfl) rfl) ?_
      refine seq_run2 (stp_alloc 1 tyZ125 rfl) rfl ?_
      first | refine seq_run0 (stp_assign (.dat _) rfl) ?_ | refine seq_run0 (stp_assign (.ptr _ _) rfl) ?_ | refine seq_run0 (stp_assign (.row _ _) rfl) ?_ | refine seq_run0 (stp_assign (.rptr _ _ _ _ _) rfl) ?_ | refine seq_run0 (stp_assign (.mp _) rfl) ?_
      first | refine seq_run2 (stp_storeW tyS125 rfl rfl rfl rfl) rfl ?_ | refine seq_run2 (stp_storeA tyS125 rfl rfl rfl rfl) rfl ?_
      refine awp_block ?_
      refine awp_seq ?_
      refine awp_plain hN rfl ?_
      first | refine seq_run0 (stp_move (.dat _) rfl) ?_ | refine seq_run0 (stp_move (.ptr _ _) rfl) ?_ | refine seq_run0 (stp_move (.row _ _) rfl) ?_ | refine seq_run0 (stp_move (.rptr _ _ _ _ _) rfl) ?_ | refine seq_run0 (stp_move (.mp _) rfl) ?_
      first | refine seq_run0 (stp_fldP tyF125_0 rfl) ?_ | refine seq_run0 (stp_fldE tyF125_0 rfl) ?_ | refine seq_run0 (stp_fldR tyF125_0 rfl) ?_
      first | refine seq_run1 (stp_load1 tyS9 rfl rfl) rfl ?_ | refine seq_run0 (stp_loadE1 tyS9 rfl (by first | assumption | rfl) rfl) ?_ | refine seq_run1 (stp_loadR1 tyS9 rfl (by first | rfl | omega | simp) (by first | assumption | exact List.getElem?_set_self (by simp; omega)) rfl) rfl ?_
      refine seq_run0 (stp_call (k_gateref2_InstanceAt xs _ hxl) ⟨.inl rfl, .inl rfl, trivial⟩) ?_
      refine seq_run0 (stp_lss rfl rfl) ?_
      first | refine seq_run0 (stp_assign (.dat _) rfl) ?_ | refine seq_run0 (stp_assign (.ptr _ _) rfl) ?_ | refine seq_run0 (stp_assign (.row _ _) rfl) ?_ | refine seq_run0 (stp_assign (.rptr _ _ _ _ _) rfl) ?_ | refine seq_run0 (stp_assign (.mp _) rfl) ?_
      refine awp_cond _ rfl (fun h3 => ?_) (fun h3 => ?_)
      · -- yes
        try simp at h3
        have h3q : hasK xs (nth ph0 ps k).k = false := by simp_all
        refine awp_seq ?_
        refine awp_plain hN rfl ?_
        refine seq_run0 (stp_assign (.dat _) rfl) ?_
        refine awp_ret ?_
        exact ⟨trivial, .inl (congrArg vint (by rw [hci]; exact fe_stop hu hkl (by unfold phAt; rw [if_pos (by simp_all)]) (by decide))), trivial⟩
      · -- no
        try simp at h3
        have h3q : hasK xs (nth ph0 ps k).k = true := by rw [decide_eq_false (Int.not_lt.2 h3)] at hix; simpa using hix.symm
        refine awp_rjP [(23, .dat (vbool (badP (nth ph0 ps k))))] hN rfl ?_ ?_
        · -- region 8
          first | refine seq_run0 (stp_fldP tyF125_1 rfl) ?_ | refine seq_run0 (stp_fldE tyF125_1 rfl) ?_ | refine seq_run0 (stp_fldR tyF125_1 rfl) ?_
          first | refine seq_run0 (stp_fldP tyF123_0 rfl) ?_ | refine seq_run0 (stp_fldE tyF123_0 rfl) ?_ | refine seq_run0 (stp_fldR tyF123_0 rfl) ?_
          first | refine seq_run1 (stp_load1 tyS3 rfl rfl) rfl ?_ | refine seq_run0 (stp_loadE1 tyS3 rfl (by first | assumption | rfl) rfl) ?_ | refine seq_run1 (stp_loadR1 tyS3 rfl (by first | rfl | omega | simp) (by first | assumption | exact List.getElem?_set_self (by simp; omega)) rfl) rfl ?_
          refine seq_run0 (stp_lss rfl rfl) ?_
          first | refine seq_run0 (stp_move (.dat _) rfl) ?_ | refine seq_run0 (stp_move (.ptr _ _) rfl) ?_ | refine seq_run0 (stp_move (.row _ _) rfl) ?_ | refine seq_run0 (stp_move (.rptr _ _ _ _ _) rfl) ?_ | refine seq_run0 (stp_move (.mp _) rfl) ?_
          refine seq_split (j := 4) rfl rfl (fun h4 => ?_) (fun h4 => ?_) rfl
          · -- guard (4, False): runs
            have qh4 := h4
            try simp at qh4
            first | refine seq_g0 rfl rfl h4 (stp_fldP tyF125_1 rfl) ?_ | refine seq_g0 rfl rfl h4 (stp_fldE tyF125_1 rfl) ?_ | refine seq_g0 rfl rfl h4 (stp_fldR tyF125_1 rfl) ?_
            first | refine seq_g0 rfl rfl h4 (stp_fldP tyF123_0 rfl) ?_ | refine seq_g0 rfl rfl h4 (stp_fldE tyF123_0 rfl) ?_ | refine seq_g0 rfl rfl h4 (stp_fldR tyF123_0 rfl) ?_
            first | refine seq_g1 rfl rfl h4 (stp_load1 tyS3 rfl rfl) rfl ?_ | refine seq_g0 rfl rfl h4 (stp_loadE1 tyS3 rfl (by first | assumption | rfl) rfl) ?_ | refine seq_g1 rfl rfl h4 (stp_loadR1 tyS3 rfl (by first | rfl | omega | simp) (by first | assumption | exact List.getElem?_set_self (by simp; omega)) rfl) rfl ?_
            first | refine seq_g0 rfl rfl h4 (stp_fldP tyF125_1 rfl) ?_ | refine seq_g0 rfl rfl h4 (stp_fldE tyF125_1 rfl) ?_ | refine seq_g0 rfl rfl h4 (stp_fldR tyF125_1 rfl) ?_
            first | refine seq_g0 rfl rfl h4 (stp_fldP tyF123_1 rfl) ?_ | refine seq_g0 rfl rfl h4 (stp_fldE tyF123_1 rfl) ?_ | refine seq_g0 rfl rfl h4 (stp_fldR tyF123_1 rfl) ?_
            first | refine seq_g1 rfl rfl h4 (stp_load1 tyS3 rfl rfl) rfl ?_ | refine seq_g0 rfl rfl h4 (stp_loadE1 tyS3 rfl (by first | assumption | rfl) rfl) ?_ | refine seq_g1 rfl rfl h4 (stp_loadR1 tyS3 rfl (by first | rfl | omega | simp) (by first | assumption | exact List.getElem?_set_self (by simp; omega)) rfl) rfl ?_
            refine seq_g0 rfl rfl h4 (stp_geq rfl rfl) ?_
            refine seq_run0 (stp_pick_f rfl h4 rfl) ?_
            first | refine seq_run0 (stp_move (.dat _) rfl) ?_ | refine seq_run0 (stp_move (.ptr _ _) rfl) ?_ | refine seq_run0 (stp_move (.row _ _) rfl) ?_ | refine seq_run0 (stp_move (.rptr _ _ _ _ _) rfl) ?_ | refine seq_run0 (stp_move (.mp _) rfl) ?_
            refine seq_split (j := 13) rfl rfl (fun h5 => ?_) (fun h5 => ?_) rfl
            · -- guard (13, False): runs
              have qh5 := h5
              try simp at qh5
              first | refine seq_g0 rfl rfl h5 (stp_fldP tyF125_1 rfl) ?_ | refine seq_g0 rfl rfl h5 (stp_fldE tyF125_1 rfl) ?_ | refine seq_g0 rfl rfl h5 (stp_fldR tyF125_1 rfl) ?_
              first | refine seq_g0 rfl rfl h5 (stp_fldP tyF123_1 rfl) ?_ | refine seq_g0 rfl rfl h5 (stp_fldE tyF123_1 rfl) ?_ | refine seq_g0 rfl rfl h5 (stp_fldR tyF123_1 rfl) ?_
              first | refine seq_g1 rfl rfl h5 (stp_load1 tyS3 rfl rfl) rfl ?_ | refine seq_g0 rfl rfl h5 (stp_loadE1 tyS3 rfl (by first | assumption | rfl) rfl) ?_ | refine seq_g1 rfl rfl h5 (stp_loadR1 tyS3 rfl (by first | rfl | omega | simp) (by first | assumption | exact List.getElem?_set_self (by simp; omega)) rfl) rfl ?_
              refine seq_g0 rfl rfl h5 (stp_gtr rfl rfl) ?_
              refine seq_run0 (stp_pick_f rfl h5 rfl) ?_
              first | refine seq_run0 (stp_move (.dat _) rfl) ?_ | refine seq_run0 (stp_move (.ptr _ _) rfl) ?_ | refine seq_run0 (stp_move (.row _ _) rfl) ?_ | refine seq_run0 (stp_move (.rptr _ _ _ _ _) rfl) ?_ | refine seq_run0 (stp_move (.mp _) rfl) ?_
              refine seq_split (j := 19) rfl rfl (fun h6 => ?_) (fun h6 => ?_) rfl
              · -- guard (19, False): runs
                have qh6 := h6
                try simp at qh6
                first | refine seq_g0 rfl rfl h6 (stp_fldP tyF125_2 rfl) ?_ | refine seq_g0 rfl rfl h6 (stp_fldE tyF125_2 rfl) ?_ | refine seq_g0 rfl rfl h6 (stp_fldR tyF125_2 rfl) ?_
                first | refine seq_g1 rfl rfl h6 (stp_load1 tyS3 rfl rfl) rfl ?_ | refine seq_g0 rfl rfl h6 (stp_loadE1 tyS3 rfl (by first | assumption | rfl) rfl) ?_ | refine seq_g1 rfl rfl h6 (stp_loadR1 tyS3 rfl (by first | rfl | omega | simp) (by first | assumption | exact List.getElem?_set_self (by simp; omega)) rfl) rfl ?_
                refine seq_g0 rfl rfl h6 (stp_call (k_gateref2_in _ _ _) ⟨.inl rfl, .inl rfl, .inl rfl, trivial⟩) ?_
                refine seq_g0 rfl rfl h6 (stp_not rfl) ?_
                refine seq_run0 (stp_pick_f rfl h6 rfl) ?_
                first | refine seq_run0 (stp_move (.dat _) rfl) ?_ | refine seq_run0 (stp_move (.ptr _ _) rfl) ?_ | refine seq_run0 (stp_move (.row _ _) rfl) ?_ | refine seq_run0 (stp_move (.rptr _ _ _ _ _) rfl) ?_ | refine seq_run0 (stp_move (.mp _) rfl) ?_
                refine seq_split (j := 25) rfl rfl (fun h7 => ?_) (fun h7 => ?_) rfl
                · -- guard (25, False): runs
                  have qh7 := h7
                  try simp at qh7
                  first | refine seq_g0 rfl rfl h7 (stp_fldP tyF125_3 rfl) ?_ | refine seq_g0 rfl rfl h7 (stp_fldE tyF125_3 rfl) ?_ | refine seq_g0 rfl rfl h7 (stp_fldR tyF125_3 rfl) ?_
                  first | refine seq_g1 rfl rfl h7 (stp_load1 tyS3 rfl rfl) rfl ?_ | refine seq_g0 rfl rfl h7 (stp_loadE1 tyS3 rfl (by first | assumption | rfl) rfl) ?_ | refine seq_g1 rfl rfl h7 (stp_loadR1 tyS3 rfl (by first | rfl | omega | simp) (by first | assumption | exact List.getElem?_set_self (by simp; omega)) rfl) rfl ?_
                  refine seq_g0 rfl rfl h7 (stp_call (k_gateref2_in _ _ _) ⟨.inl rfl, .inl rfl, .inl rfl, trivial⟩) ?_
                  refine seq_g0 rfl rfl h7 (stp_not rfl) ?_
                  refine seq_run0 (stp_pick_f rfl h7 rfl) ?_
                  first | refine seq_run0 (stp_assign (.dat _) rfl) ?_ | refine seq_run0 (stp_assign (.ptr _ _) rfl) ?_ | refine seq_run0 (stp_assign (.row _ _) rfl) ?_ | refine seq_run0 (stp_assign (.rptr _ _ _ _ _) rfl) ?_ | refine seq_run0 (stp_assign (.mp _) rfl) ?_
                  exact ⟨rfl, jb (by unfold badP; simp_all [out_in] <;> (intros; omega)), trivial⟩
                · -- guard (25, False): is left out
                  have qh7 := h7
                  try simp at qh7
                  refine seq_skip rfl rfl h7 ?_
                  refine seq_skip rfl rfl h7 ?_
                  refine seq_skip rfl rfl h7 ?_
                  refine seq_skip rfl rfl h7 ?_
                  refine seq_run0 (stp_pick_t' rfl h7 rfl) ?_
                  first | refine seq_run0 (stp_assign (.dat _) rfl) ?_ | refine seq_run0 (stp_assign (.ptr _ _) rfl) ?_ | refine seq_run0 (stp_assign (.row _ _) rfl) ?_ | refine seq_run0 (stp_assign (.rptr _ _ _ _ _) rfl) ?_ | refine seq_run0 (stp_assign (.mp _) rfl) ?_
                  exact ⟨rfl, jb (by unfold badP; simp_all [out_in] <;> (intros; omega)), trivial⟩
              · -- guard (19, False): is left out
                have qh6 := h6
                try simp at qh6
                refine seq_skip rfl rfl h6 ?_
                refine seq_skip rfl rfl h6 ?_
                refine seq_skip rfl rfl h6 ?_
                refine seq_skip rfl rfl h6 ?_
                refine seq_run0 (stp_pick_t' rfl h6 rfl) ?_
                first | refine seq_run0 (stp_move (.dat _) rfl) ?_ | refine seq_run0 (stp_move (.ptr _ _) rfl) ?_ | refine seq_run0 (stp_move (.row _ _) rfl) ?_ | refine seq_run0 (stp_move (.rptr _ _ _ _ _) rfl) ?_ | refine seq_run0 (stp_move (.mp _) rfl) ?_
                refine seq_skip rfl rfl rfl ?_
                refine seq_skip rfl rfl rfl ?_
                refine seq_skip rfl rfl rfl ?_
                refine seq_skip rfl rfl rfl ?_
                refine seq_run0 (stp_pick_t rfl rfl rfl) ?_
                first | refine seq_run0 (stp_assign (.dat _) rfl) ?_ | refine seq_run0 (stp_assign (.ptr _ _) rfl) ?_ | refine seq_run0 (stp_assign (.row _ _) rfl) ?_ | refine seq_run0 (stp_assign (.rptr _ _ _ _ _) rfl) ?_ | refine seq_run0 (stp_assign (.mp _) rfl) ?_
                exact ⟨rfl, jb (by unfold badP; simp_all [out_in] <;> (intros; omega)), trivial⟩
            · -- guard (13, False): is left out
              have qh5 := h5
              try simp at qh5
              refine seq_skip rfl rfl h5 ?_
              refine seq_skip rfl rfl h5 ?_
              refine seq_skip rfl rfl h5 ?_
              refine seq_skip rfl rfl h5 ?_
              refine seq_run0 (stp_pick_t' rfl h5 rfl) ?_
              first | refine seq_run0 (stp_move (.dat _) rfl) ?_ | refine seq_run0 (stp_move (.ptr _ _) rfl) ?_ | refine seq_run0 (stp_move (.row _ _) rfl) ?_ | refine seq_run0 (stp_move (.rptr _ _ _ _ _) rfl) ?_ | refine seq_run0 (stp_move (.mp _) rfl) ?_
              refine seq_skip rfl rfl rfl ?_
              refine seq_skip rfl rfl rfl ?_
              refine seq_skip rfl rfl rfl ?_
              refine seq_skip rfl rfl rfl ?_
              refine seq_run0 (stp_pick_t rfl rfl rfl) ?_
              first | refine seq_run0 (stp_move (.dat _) rfl) ?_ | refine seq_run0 (stp_move (.ptr _ _) rfl) ?_ | refine seq_run0 (stp_move (.row _ _) rfl) ?_ | refine seq_run0 (stp_move (.rptr _ _ _ _ _) rfl) ?_ | refine seq_run0 (stp_move (.mp _) rfl) ?_
              refine seq_skip rfl rfl rfl ?_
              refine seq_skip rfl rfl rfl ?_
              refine seq_skip rfl rfl rfl ?_
              refine seq_skip rfl rfl rfl ?_
              refine seq_run0 (stp_pick_t rfl rfl rfl) ?_
              first | refine seq_run0 (stp_assign (.dat _) rfl) ?_ | refine seq_run0 (stp_assign (.ptr _ _) rfl) ?_ | refine seq_run0 (stp_assign (.row _ _) rfl) ?_ | refine seq_run0 (stp_assign (.rptr _ _ _ _ _) rfl) ?_ | refine seq_run0 (stp_assign (.mp _) rfl) ?_
              exact ⟨rfl, jb (by unfold badP; simp_all [out_in] <;> (intros; omega)), trivial⟩
          · -- guard (4, False): is left out
            have qh4 := h4
            try simp at qh4
            refine seq_skip rfl rfl h4 ?_
            refine seq_skip rfl rfl h4 ?_
            refine seq_skip rfl rfl h4 ?_
            refine seq_skip rfl rfl h4 ?_
            refine seq_skip rfl rfl h4 ?_
            refine seq_skip rfl rfl h4 ?_
            refine seq_skip rfl rfl h4 ?_
            refine seq_run0 (stp_pick_t' rfl h4 rfl) ?_
            first | refine seq_run0 (stp_move (.dat _) rfl) ?_ | refine seq_run0 (stp_move (.ptr _ _) rfl) ?_ | refine seq_run0 (stp_move (.row _ _) rfl) ?_ | refine seq_run0 (stp_move (.rptr _ _ _ _ _) rfl) ?_ | refine seq_run0 (stp_move (.mp _) rfl) ?_
            refine seq_skip rfl rfl rfl ?_
            refine seq_skip rfl rfl rfl ?_
            refine seq_skip rfl rfl rfl ?_
            refine seq_skip rfl rfl rfl ?_
            refine seq_run0 (stp_pick_t rfl rfl rfl) ?_
            first | refine seq_run0 (stp_move (.dat _) rfl) ?_ | refine seq_run0 (stp_move (.ptr _ _) rfl) ?_ | refine seq_run0 (stp_move (.row _ _) rfl) ?_ | refine seq_run0 (stp_move (.rptr _ _ _ _ _) rfl) ?_ | refine seq_run0 (stp_move (.mp _) rfl) ?_
            refine seq_skip rfl rfl rfl ?_
            refine seq_skip rfl rfl rfl ?_
            refine seq_skip rfl rfl rfl ?_
            refine seq_skip rfl rfl rfl ?_
            refine seq_run0 (stp_pick_t rfl rfl rfl) ?_
            first | refine seq_run0 (stp_move (.dat _) rfl) ?_ | refine seq_run0 (stp_move (.ptr _ _) rfl) ?_ | refine seq_run0 (stp_move (.row _ _) rfl) ?_ | refine seq_run0 (stp_move (.rptr _ _ _ _ _) rfl) ?_ | refine seq_run0 (stp_move (.mp _) rfl) ?_
            refine seq_skip rfl rfl rfl ?_
            refine seq_skip rfl rfl rfl ?_
            refine seq_skip rfl rfl rfl ?_
            refine seq_skip rfl rfl rfl ?_
            refine seq_run0 (stp_pick_t rfl rfl rfl) ?_
            first | refine seq_run0 (stp_assign (.dat _) rfl) ?_ | refine seq_run0 (stp_assign (.ptr _ _) rfl) ?_ | refine seq_run0 (stp_assign (.row _ _) rfl) ?_ | refine seq_run0 (stp_assign (.rptr _ _ _ _ _) rfl) ?_ | refine seq_run0 (stp_assign (.mp _) rfl) ?_
            exact ⟨rfl, jb (by unfold badP; simp_all [out_in] <;> (intros; omega)), trivial⟩
        · -- behind region 8
          refine awp_cond _ rfl (fun h8 => ?_) (fun h8 => ?_)
          · -- yes
            try simp at h8
            refine awp_seq ?_
            refine awp_plain hN rfl ?_
            refine seq_run0 (stp_assign (.dat _) rfl) ?_
            refine awp_ret ?_
            exact ⟨trivial, .inl (congrArg vint (by rw [hci]; exact fe_stop hu hkl (by unfold phAt; rw [if_neg (by simp_all), if_pos (by simp_all)]) (by decide))), trivial⟩
          · -- no
            try simp at h8
            refine awp_rjD [(55, .dat (vbool ((decide (0 < (k : Int)) && ordB (nth ph0 ps k) (nth ph0 ps ((k : Int) - 1).toNat)))))] mixed hN rfl rfl ?_ ?_
            · -- region 10
              first | refine seq_run0 (stp_move (.dat _) rfl) ?_ | refine seq_run0 (stp_move (.ptr _ _) rfl) ?_ | refine seq_run0 (stp_move (.row _ _) rfl) ?_ | refine seq_run0 (stp_move (.rptr _ _ _ _ _) rfl) ?_ | refine seq_run0 (stp_move (.mp _) rfl) ?_
              refine seq_run0 (stp_gtr rfl rfl) ?_
              first | refine seq_run0 (stp_move (.dat _) rfl) ?_ | refine seq_run0 (stp_move (.ptr _ _) rfl) ?_ | refine seq_run0 (stp_move (.row _ _) rfl) ?_ | refine seq_run0 (stp_move (.rptr _ _ _ _ _) rfl) ?_ | refine seq_run0 (stp_move (.mp _) rfl) ?_
              refine seq_split (j := 2) rfl rfl (fun h9 => ?_) (fun h9 => ?_) rfl
              · -- guard (2, True): runs
                have qh9 := h9
                try simp at qh9
                have hkp : (((k : Int) - 1).toNat : Int) = (k : Int) - 1 := by omega
                have hat2 := pha_at (l := ps) (k := ((k : Int) - 1).toNat) (by omega)
                first | refine seq_g0 rfl rfl h9 (stp_fldP tyF125_0 rfl) ?_ | refine seq_g0 rfl rfl h9 (stp_fldE tyF125_0 rfl) ?_ | refine seq_g0 rfl rfl h9 (stp_fldR tyF125_0 rfl) ?_
                first | refine seq_g1 rfl rfl h9 (stp_load1 tyS9 rfl rfl) rfl ?_ | refine seq_g0 rfl rfl h9 (stp_loadE1 tyS9 rfl (by first | assumption | rfl) rfl) ?_ | refine seq_g1 rfl rfl h9 (stp_loadR1 tyS9 rfl (by first | rfl | omega | simp) (by first | assumption | exact List.getElem?_set_self (by simp; omega)) rfl) rfl ?_
                first | refine seq_g0 rfl rfl h9 (stp_move (.dat _) rfl) ?_ | refine seq_g0 rfl rfl h9 (stp_move (.ptr _ _) rfl) ?_ | refine seq_g0 rfl rfl h9 (stp_move (.row _ _) rfl) ?_ | refine seq_g0 rfl rfl h9 (stp_move (.rptr _ _ _ _ _) rfl) ?_ | refine seq_g0 rfl rfl h9 (stp_move (.mp _) rfl) ?_
                first | refine seq_g0 rfl rfl h9 (stp_move (.dat _) rfl) ?_ | refine seq_g0 rfl rfl h9 (stp_move (.ptr _ _) rfl) ?_ | refine seq_g0 rfl rfl h9 (stp_move (.row _ _) rfl) ?_ | refine seq_g0 rfl rfl h9 (stp_move (.rptr _ _ _ _ _) rfl) ?_ | refine seq_g0 rfl rfl h9 (stp_move (.mp _) rfl) ?_
                refine seq_g0 rfl rfl h9 (stp_sub rfl rfl (by omega)) ?_
                first | refine seq_g0 rfl rfl h9 (stp_idxE tyE58 rfl rfl (by omega) (by assumption)) ?_ | refine seq_g0 rfl rfl h9 (stp_idxI tyE58 rfl rfl (by omega) (by assumption)) ?_ | refine seq_g1 rfl rfl h9 (stp_idxR tyE58 rfl rfl (by first | rfl | omega | simp) (by first | omega | (simp; omega))) rfl ?_ | refine seq_g1 rfl rfl h9 (stp_idxRI tyE58 rfl rfl (by first | rfl | omega | simp) (by first | omega | (simp; omega))) rfl ?_
                first | refine seq_g0 rfl rfl h9 (stp_fldP tyF125_0 rfl) ?_ | refine seq_g0 rfl rfl h9 (stp_fldE tyF125_0 rfl) ?_ | refine seq_g0 rfl rfl h9 (stp_fldR tyF125_0 rfl) ?_
                first | refine seq_g1 rfl rfl h9 (stp_load1 tyS9 rfl rfl) rfl ?_ | refine seq_g0 rfl rfl h9 (stp_loadE1 tyS9 rfl (by first | assumption | rfl) rfl) ?_ | refine seq_g1 rfl rfl h9 (stp_loadR1 tyS9 rfl (by first | rfl | omega | simp) (by first | assumption | exact List.getElem?_set_self (by simp; omega)) rfl) rfl ?_
                refine seq_g0 rfl rfl h9 (stp_slss rfl rfl) ?_
                first | refine seq_g0 rfl rfl h9 (stp_move (.dat _) rfl) ?_ | refine seq_g0 rfl rfl h9 (stp_move (.ptr _ _) rfl) ?_ | refine seq_g0 rfl rfl h9 (stp_move (.row _ _) rfl) ?_ | refine seq_g0 rfl rfl h9 (stp_move (.rptr _ _ _ _ _) rfl) ?_ | refine seq_g0 rfl rfl h9 (stp_move (.mp _) rfl) ?_
                refine seq_split (j := 12) rfl rfl (fun h10 => ?_) (fun h10 => ?_) rfl
                · -- guard (12, False): runs
                  have qh10 := h10
                  try simp at qh10
                  first | refine seq_g0 rfl rfl h10 (stp_fldP tyF125_0 rfl) ?_ | refine seq_g0 rfl rfl h10 (stp_fldE tyF125_0 rfl) ?_ | refine seq_g0 rfl rfl h10 (stp_fldR tyF125_0 rfl) ?_
                  first | refine seq_g1 rfl rfl h10 (stp_load1 tyS9 rfl rfl) rfl ?_ | refine seq_g0 rfl rfl h10 (stp_loadE1 tyS9 rfl (by first | assumption | rfl) rfl) ?_ | refine seq_g1 rfl rfl h10 (stp_loadR1 tyS9 rfl (by first | rfl | omega | simp) (by first | assumption | exact List.getElem?_set_self (by simp; omega)) rfl) rfl ?_
                  first | refine seq_g0 rfl rfl h10 (stp_move (.dat _) rfl) ?_ | refine seq_g0 rfl rfl h10 (stp_move (.ptr _ _) rfl) ?_ | refine seq_g0 rfl rfl h10 (stp_move (.row _ _) rfl) ?_ | refine seq_g0 rfl rfl h10 (stp_move (.rptr _ _ _ _ _) rfl) ?_ | refine seq_g0 rfl rfl h10 (stp_move (.mp _) rfl) ?_
                  first | refine seq_g0 rfl rfl h10 (stp_move (.dat _) rfl) ?_ | refine seq_g0 rfl rfl h10 (stp_move (.ptr _ _) rfl) ?_ | refine seq_g0 rfl rfl h10 (stp_move (.row _ _) rfl) ?_ | refine seq_g0 rfl rfl h10 (stp_move (.rptr _ _ _ _ _) rfl) ?_ | refine seq_g0 rfl rfl h10 (stp_move (.mp _) rfl) ?_
                  refine seq_g0 rfl rfl h10 (stp_sub rfl rfl (by omega)) ?_
                  first | refine seq_g0 rfl rfl h10 (stp_idxE tyE58 rfl rfl (by omega) (by assumption)) ?_ | refine seq_g0 rfl rfl h10 (stp_idxI tyE58 rfl rfl (by omega) (by assumption)) ?_ | refine seq_g1 rfl rfl h10 (stp_idxR tyE58 rfl rfl (by first | rfl | omega | simp) (by first | omega | (simp; omega))) rfl ?_ | refine seq_g1 rfl rfl h10 (stp_idxRI tyE58 rfl rfl (by first | rfl | omega | simp) (by first | omega | (simp; omega))) rfl ?_
                  first | refine seq_g0 rfl rfl h10 (stp_fldP tyF125_0 rfl) ?_ | refine seq_g0 rfl rfl h10 (stp_fldE tyF125_0 rfl) ?_ | refine seq_g0 rfl rfl h10 (stp_fldR tyF125_0 rfl) ?_
                  first | refine seq_g1 rfl rfl h10 (stp_load1 tyS9 rfl rfl) rfl ?_ | refine seq_g0 rfl rfl h10 (stp_loadE1 tyS9 rfl (by first | assumption | rfl) rfl) ?_ | refine seq_g1 rfl rfl h10 (stp_loadR1 tyS9 rfl (by first | rfl | omega | simp) (by first | assumption | exact List.getElem?_set_self (by simp; omega)) rfl) rfl ?_
                  refine seq_g0 rfl rfl h10 (stp_seql rfl rfl) ?_
                  first | refine seq_g0 rfl rfl h10 (stp_move (.dat _) rfl) ?_ | refine seq_g0 rfl rfl h10 (stp_move (.ptr _ _) rfl) ?_ | refine seq_g0 rfl rfl h10 (stp_move (.row _ _) rfl) ?_ | refine seq_g0 rfl rfl h10 (stp_move (.rptr _ _ _ _ _) rfl) ?_ | refine seq_g0 rfl rfl h10 (stp_move (.mp _) rfl) ?_
                  refine seq_split (j := 22) rfl rfl (fun h11 => ?_) (fun h11 => ?_) rfl
                  · -- guard (22, True): runs
                    have qh11 := h11
                    try simp at qh11
                    first | refine seq_g0 rfl rfl h11 (stp_fldP tyF125_1 rfl) ?_ | refine seq_g0 rfl rfl h11 (stp_fldE tyF125_1 rfl) ?_ | refine seq_g0 rfl rfl h11 (stp_fldR tyF125_1 rfl) ?_
                    first | refine seq_g0 rfl rfl h11 (stp_fldP tyF123_0 rfl) ?_ | refine seq_g0 rfl rfl h11 (stp_fldE tyF123_0 rfl) ?_ | refine seq_g0 rfl rfl h11 (stp_fldR tyF123_0 rfl) ?_
                    first | refine seq_g1 rfl rfl h11 (stp_load1 tyS3 rfl rfl) rfl ?_ | refine seq_g0 rfl rfl h11 (stp_loadE1 tyS3 rfl (by first | assumption | rfl) rfl) ?_ | refine seq_g1 rfl rfl h11 (stp_loadR1 tyS3 rfl (by first | rfl | omega | simp) (by first | assumption | exact List.getElem?_set_self (by simp; omega)) rfl) rfl ?_
                    first | refine seq_g0 rfl rfl h11 (stp_move (.dat _) rfl) ?_ | refine seq_g0 rfl rfl h11 (stp_move (.ptr _ _) rfl) ?_ | refine seq_g0 rfl rfl h11 (stp_move (.row _ _) rfl) ?_ | refine seq_g0 rfl rfl h11 (stp_move (.rptr _ _ _ _ _) rfl) ?_ | refine seq_g0 rfl rfl h11 (stp_move (.mp _) rfl) ?_
                    first | refine seq_g0 rfl rfl h11 (stp_move (.dat _) rfl) ?_ | refine seq_g0 rfl rfl h11 (stp_move (.ptr _ _) rfl) ?_ | refine seq_g0 rfl rfl h11 (stp_move (.row _ _) rfl) ?_ | refine seq_g0 rfl rfl h11 (stp_move (.rptr _ _ _ _ _) rfl) ?_ | refine seq_g0 rfl rfl h11 (stp_move (.mp _) rfl) ?_
                    refine seq_g0 rfl rfl h11 (stp_sub rfl rfl (by omega)) ?_
                    first | refine seq_g0 rfl rfl h11 (stp_idxE tyE58 rfl rfl (by omega) (by assumption)) ?_ | refine seq_g0 rfl rfl h11 (stp_idxI tyE58 rfl rfl (by omega) (by assumption)) ?_ | refine seq_g1 rfl rfl h11 (stp_idxR tyE58 rfl rfl (by first | rfl | omega | simp) (by first | omega | (simp; omega))) rfl ?_ | refine seq_g1 rfl rfl h11 (stp_idxRI tyE58 rfl rfl (by first | rfl | omega | simp) (by first | omega | (simp; omega))) rfl ?_
                    first | refine seq_g0 rfl rfl h11 (stp_fldP tyF125_1 rfl) ?_ | refine seq_g0 rfl rfl h11 (stp_fldE tyF125_1 rfl) ?_ | refine seq_g0 rfl rfl h11 (stp_fldR tyF125_1 rfl) ?_
                    first | refine seq_g0 rfl rfl h11 (stp_fldP tyF123_1 rfl) ?_ | refine seq_g0 rfl rfl h11 (stp_fldE tyF123_1 rfl) ?_ | refine seq_g0 rfl rfl h11 (stp_fldR tyF123_1 rfl) ?_
                    first | refine seq_g1 rfl rfl h11 (stp_load1 tyS3 rfl rfl) rfl ?_ | refine seq_g0 rfl rfl h11 (stp_loadE1 tyS3 rfl (by first | assumption | rfl) rfl) ?_ | refine seq_g1 rfl rfl h11 (stp_loadR1 tyS3 rfl (by first | rfl | omega | simp) (by first | assumption | exact List.getElem?_set_self (by simp; omega)) rfl) rfl ?_
                    refine seq_g0 rfl rfl h11 (stp_lss rfl rfl) ?_
                    refine seq_g0 rfl rfl h10 (stp_pick_t rfl h11 rfl) ?_
                    refine seq_g0 rfl rfl h9 (stp_pick_f rfl h10 rfl) ?_
                    refine seq_run0 (stp_pick_t rfl h9 rfl) ?_
                    first | refine seq_run0 (stp_assign (.dat _) rfl) ?_ | refine seq_run0 (stp_assign (.ptr _ _) rfl) ?_ | refine seq_run0 (stp_assign (.row _ _) rfl) ?_ | refine seq_run0 (stp_assign (.rptr _ _ _ _ _) rfl) ?_ | refine seq_run0 (stp_assign (.mp _) rfl) ?_
                    exact ⟨rfl, rfl, jb (by unfold ordB; simp_all), trivial⟩
                  · -- guard (22, True): is left out
                    have qh11 := h11
                    try simp at qh11
                    refine seq_skip rfl rfl h11 ?_
                    refine seq_skip rfl rfl h11 ?_
                    refine seq_skip rfl rfl h11 ?_
                    refine seq_skip rfl rfl h11 ?_
                    refine seq_skip rfl rfl h11 ?_
                    refine seq_skip rfl rfl h11 ?_
                    refine seq_skip rfl rfl h11 ?_
                    refine seq_skip rfl rfl h11 ?_
                    refine seq_skip rfl rfl h11 ?_
                    refine seq_skip rfl rfl h11 ?_
                    refine seq_skip rfl rfl h11 ?_
                    refine seq_g0 rfl rfl h10 (stp_pick_f' rfl h11 rfl) ?_
                    refine seq_g0 rfl rfl h9 (stp_pick_f rfl h10 rfl) ?_
                    refine seq_run0 (stp_pick_t rfl h9 rfl) ?_
                    first | refine seq_run0 (stp_assign (.dat _) rfl) ?_ | refine seq_run0 (stp_assign (.ptr _ _) rfl) ?_ | refine seq_run0 (stp_assign (.row _ _) rfl) ?_ | refine seq_run0 (stp_assign (.rptr _ _ _ _ _) rfl) ?_ | refine seq_run0 (stp_assign (.mp _) rfl) ?_
                    exact ⟨rfl, rfl, jb (by unfold ordB; simp_all), trivial⟩
                · -- guard (12, False): is left out
                  have qh10 := h10
                  try simp at qh10
                  refine seq_skip rfl rfl h10 ?_
                  refine seq_skip rfl rfl h10 ?_
                  refine seq_skip rfl rfl h10 ?_
                  refine seq_skip rfl rfl h10 ?_
                  refine seq_skip rfl rfl h10 ?_
                  refine seq_skip rfl rfl h10 ?_
                  refine seq_skip rfl rfl h10 ?_
                  refine seq_skip rfl rfl h10 ?_
                  refine seq_skip rfl rfl h10 ?_
                  refine seq_skip rfl rfl h10 ?_
                  refine seq_skipU rfl rfl ?_
                  refine seq_skipU rfl rfl ?_
                  refine seq_skipU rfl rfl ?_
                  refine seq_skipU rfl rfl ?_
                  refine seq_skipU rfl rfl ?_
                  refine seq_skipU rfl rfl ?_
                  refine seq_skipU rfl rfl ?_
                  refine seq_skipU rfl rfl ?_
                  refine seq_skipU rfl rfl ?_
                  refine seq_skipU rfl rfl ?_
                  refine seq_skipU rfl rfl ?_
                  refine seq_skip rfl rfl h10 ?_
                  refine seq_g0 rfl rfl h9 (stp_pick_t' rfl h10 rfl) ?_
                  refine seq_run0 (stp_pick_t rfl h9 rfl) ?_
                  first | refine seq_run0 (stp_assign (.dat _) rfl) ?_ | refine seq_run0 (stp_assign (.ptr _ _) rfl) ?_ | refine seq_run0 (stp_assign (.row _ _) rfl) ?_ | refine seq_run0 (stp_assign (.rptr _ _ _ _ _) rfl) ?_ | refine seq_run0 (stp_assign (.mp _) rfl) ?_
                  exact ⟨rfl, rfl, jb (by unfold ordB; simp_all), trivial⟩
              · -- guard (2, True): is left out
                have qh9 := h9
                try simp at qh9
                refine seq_skip rfl rfl h9 ?_
                refine seq_skip rfl rfl h9 ?_
                refine seq_skip rfl rfl h9 ?_
                refine seq_skip rfl rfl h9 ?_
                refine seq_skip rfl rfl h9 ?_
                refine seq_skip rfl rfl h9 ?_
                refine seq_skip rfl rfl h9 ?_
                refine seq_skip rfl rfl h9 ?_
                refine seq_skip rfl rfl h9 ?_
                refine seq_skip rfl rfl h9 ?_
                refine seq_skipU rfl rfl ?_
                refine seq_skipU rfl rfl ?_
                refine seq_skipU rfl rfl ?_
                refine seq_skipU rfl rfl ?_
                refine seq_skipU rfl rfl ?_
                refine seq_skipU rfl rfl ?_
                refine seq_skipU rfl rfl ?_
                refine seq_skipU rfl rfl ?_
                refine seq_skipU rfl rfl ?_
                refine seq_skipU rfl rfl ?_
                refine seq_skipU rfl rfl ?_
                refine seq_skipU rfl rfl ?_
                refine seq_skipU rfl rfl ?_
                refine seq_skipU rfl rfl ?_
                refine seq_skipU rfl rfl ?_
                refine seq_skipU rfl rfl ?_
                refine seq_skipU rfl rfl ?_
                refine seq_skipU rfl rfl ?_
                refine seq_skipU rfl rfl ?_
                refine seq_skipU rfl rfl ?_
                refine seq_skipU rfl rfl ?_
                refine seq_skipU rfl rfl ?_
                refine seq_skip rfl rfl h9 ?_
                refine seq_run0 (stp_pick_f' rfl h9 rfl) ?_
                first | refine seq_run0 (stp_assign (.dat _) rfl) ?_ | refine seq_run0 (stp_assign (.ptr _ _) rfl) ?_ | refine seq_run0 (stp_assign (.row _ _) rfl) ?_ | refine seq_run0 (stp_assign (.rptr _ _ _ _ _) rfl) ?_ | refine seq_run0 (stp_assign (.mp _) rfl) ?_
                exact ⟨rfl, rfl, jb (by unfold ordB; simp_all), trivial⟩
            · -- behind region 10
              refine awp_cond _ rfl (fun h12 => ?_) (fun h12 => ?_)
              · -- yes
                try simp at h12
                refine awp_seq ?_
                refine awp_plain hN rfl ?_
                refine seq_run0 (stp_assign (.dat _) rfl) ?_
                refine awp_ret ?_
                exact ⟨trivial, .inl (congrArg vint (by rw [hci]; exact fe_stop hu hkl (by unfold phAt; rw [if_neg (by simp_all), if_neg (by simp_all), if_pos (by simp_all)]) (by decide))), trivial⟩
              · -- no
                try simp at h12
                refine awp_skip ?_
                refine awp_plain hN rfl ?_
                refine seq_run0 (stp_add rfl rfl (by omega)) ?_
                first | refine seq_run0 (stp_move (.dat _) rfl) ?_ | refine seq_run0 (stp_move (.ptr _ _) rfl) ?_ | refine seq_run0 (stp_move (.row _ _) rfl) ?_ | refine seq_run0 (stp_move (.rptr _ _ _ _ _) rfl) ?_ | refine seq_run0 (stp_move (.mp _) rfl) ?_
                exact ⟨k + 1, ⟨by omega, firstErr_step hu (by unfold phAt; rw [if_neg (by simp_all), if_neg (by simp_all), if_neg (by simp_all)])⟩, by omega, ⟨rfl, rfl, rfl, rfl, rfl, trivial⟩, trivial⟩
    · -- no
      try simp at h2
      refine awp_exit ?_
      refine awp_seq ?_
      refine awp_plain hN rfl ?_
      refine seq_run0 (stp_assign (.dat _) rfl) ?_
      refine awp_ret ?_
      exact ⟨trivial, .inl (congrArg vint (by rw [hci]; exact fe_end hu (by omega) hk)), trivial⟩
end Go.Proofs.Ytmcegaabopcmfaa
