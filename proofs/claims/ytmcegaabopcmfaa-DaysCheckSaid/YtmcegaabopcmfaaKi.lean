/- Small functions of numbers: Outside, in, IsMoment, Moment, errs, when, momentFault, Below. -/
import Derived.Test.YtmcegaabopcmfaaAbsH
import Derived.Test.YtmcegaabopcmfaaTy
namespace Go.Proofs.Ytmcegaabopcmfaa
open Go.RowKit
set_option linter.unusedVariables false
set_option maxRecDepth 20000

def outB (n lo hi : Int) : Bool := decide (n < lo ∨ hi < n)
def inB (n lo hi : Int) : Bool := decide (lo ≤ n ∧ n ≤ hi)
theorem out_in (n lo hi : Int) : outB n lo hi = !inB n lo hi := by
  unfold outB inB
  by_cases h : lo ≤ n ∧ n ≤ hi
  · have : ¬ (n < lo ∨ hi < n) := by omega
    simp [h, this]
  · have : n < lo ∨ hi < n := by omega
    simp [h, this]
def momB (n : Int) : Bool := inB n 0 345686399999
def firstNZ : List Int → Int
  | [] => 0
  | e :: l => if e = 0 then firstNZ l else e
def nth {α : Type} (d : α) (l : List α) (k : Nat) : α := l.getD k d
theorem nth_at {α : Type} {d : α} {l : List α} {k : Nat} (h : k < l.length) : l[k]? = some (nth d l k) := by
  unfold nth; rw [List.getD_eq_getElem?_getD, List.getElem?_eq_getElem h]; rfl
theorem nth_mem {α : Type} {d : α} {l : List α} {k : Nat} (h : k < l.length) : nth d l k ∈ l := List.mem_of_getElem? (nth_at h)
theorem nth_drop {α : Type} {d : α} {l : List α} {k : Nat} (h : k < l.length) : l.drop k = nth d l k :: l.drop (k + 1) := by
  rw [List.drop_eq_getElem_cons h]; congr 1; have := nth_at (d := d) h; rw [List.getElem?_eq_getElem h] at this; exact Option.some.inj this
theorem nth_take {α : Type} {d : α} {l : List α} {k : Nat} (h : k < l.length) : l.take (k + 1) = l.take k ++ [nth d l k] := by
  rw [List.take_succ_eq_append_getElem h]; congr 2; have := nth_at (d := d) h; rw [List.getElem?_eq_getElem h] at this; exact Option.some.inj this
abbrev ints (l : List Int) : List (List V) := l.map fun n => [vint n]
theorem ints_len (l : List Int) : ∀ el, el ∈ ints l → el.length = 1 := by
  intro el h; obtain ⟨p, _, rfl⟩ := List.mem_map.1 h; rfl
theorem ints_at {l : List Int} {k : Nat} (h : k < l.length) : (ints l)[k]? = some [vint (nth 0 l k)] := by
  rw [List.getElem?_map, nth_at (d := 0) h]; rfl
theorem k_kit_Outside (n lo hi : Int)  : Fn Try.prog 73 [vint n, vint lo, vint hi] (resOf [vbool (outB n lo hi)]) := by
  refine ⟨by kernel_rfl, pure_of (us := [vbool (outB n lo hi)]) Try.func73 rfl rfl rfl rfl fun X hN => ?_⟩
  refine awp_seq ?_
  refine awp_plain hN rfl ?_
  refine seq_run0 (stp_assign (.dat _) rfl) ?_
  refine awp_seq ?_
  refine awp_plain hN rfl ?_
  first | refine seq_run0 (stp_move (.dat _) rfl) ?_ | refine seq_run0 (stp_move (.ptr _ _) rfl) ?_ | refine seq_run0 (stp_move (.row _ _) rfl) ?_ | refine seq_run0 (stp_move (.rptr _ _ _ _ _) rfl) ?_ | refine seq_run0 (stp_move (.mp _) rfl) ?_
  first | refine seq_run0 (stp_move (.dat _) rfl) ?_ | refine seq_run0 (stp_move (.ptr _ _) rfl) ?_ | refine seq_run0 (stp_move (.row _ _) rfl) ?_ | refine seq_run0 (stp_move (.rptr _ _ _ _ _) rfl) ?_ | refine seq_run0 (stp_move (.mp _) rfl) ?_
  refine seq_run0 (stp_lss rfl rfl) ?_
  first | refine seq_run0 (stp_move (.dat _) rfl) ?_ | refine seq_run0 (stp_move (.ptr _ _) rfl) ?_ | refine seq_run0 (stp_move (.row _ _) rfl) ?_ | refine seq_run0 (stp_move (.rptr _ _ _ _ _) rfl) ?_ | refine seq_run0 (stp_move (.mp _) rfl) ?_
  refine seq_split (j := 3) rfl rfl (fun h1 => ?_) (fun h1 => ?_) rfl
  · -- guard (3, False): runs
    have qh1 := h1
    try simp at qh1
    first | refine seq_g0 rfl rfl h1 (stp_move (.dat _) rfl) ?_ | refine seq_g0 rfl rfl h1 (stp_move (.ptr _ _) rfl) ?_ | refine seq_g0 rfl rfl h1 (stp_move (.row _ _) rfl) ?_ | refine seq_g0 rfl rfl h1 (stp_move (.rptr _ _ _ _ _) rfl) ?_ | refine seq_g0 rfl rfl h1 (stp_move (.mp _) rfl) ?_
    first | refine seq_g0 rfl rfl h1 (stp_move (.dat _) rfl) ?_ | refine seq_g0 rfl rfl h1 (stp_move (.ptr _ _) rfl) ?_ | refine seq_g0 rfl rfl h1 (stp_move (.row _ _) rfl) ?_ | refine seq_g0 rfl rfl h1 (stp_move (.rptr _ _ _ _ _) rfl) ?_ | refine seq_g0 rfl rfl h1 (stp_move (.mp _) rfl) ?_
    refine seq_g0 rfl rfl h1 (stp_gtr rfl rfl) ?_
    refine seq_run0 (stp_pick_f rfl h1 rfl) ?_
    first | refine seq_run0 (stp_assign (.dat _) rfl) ?_ | refine seq_run0 (stp_assign (.ptr _ _) rfl) ?_ | refine seq_run0 (stp_assign (.row _ _) rfl) ?_ | refine seq_run0 (stp_assign (.rptr _ _ _ _ _) rfl) ?_ | refine seq_run0 (stp_assign (.mp _) rfl) ?_
    refine awp_ret ?_
    exact ⟨trivial, .inl (congrArg vbool (by simp [outB] at *; omega)), trivial⟩
  · -- guard (3, False): is left out
    have qh1 := h1
    try simp at qh1
    refine seq_skip rfl rfl h1 ?_
    refine seq_skip rfl rfl h1 ?_
    refine seq_skip rfl rfl h1 ?_
    refine seq_run0 (stp_pick_t' rfl h1 rfl) ?_
    first | refine seq_run0 (stp_assign (.dat _) rfl) ?_ | refine seq_run0 (stp_assign (.ptr _ _) rfl) ?_ | refine seq_run0 (stp_assign (.row _ _) rfl) ?_ | refine seq_run0 (stp_assign (.rptr _ _ _ _ _) rfl) ?_ | refine seq_run0 (stp_assign (.mp _) rfl) ?_
    refine awp_ret ?_
    exact ⟨trivial, .inl (congrArg vbool (by simp [outB] at *; omega)), trivial⟩
theorem k_gateref2_in (n lo hi : Int)  : Fn Try.prog 74 [vint n, vint lo, vint hi] (resOf [vbool (inB n lo hi)]) := by
  refine ⟨by kernel_rfl, pure_of (us := [vbool (inB n lo hi)]) Try.func74 rfl rfl rfl rfl fun X hN => ?_⟩
  refine awp_seq ?_
  refine awp_plain hN rfl ?_
  refine seq_run0 (stp_assign (.dat _) rfl) ?_
  refine awp_seq ?_
  refine awp_plain hN rfl ?_
  first | refine seq_run0 (stp_move (.dat _) rfl) ?_ | refine seq_run0 (stp_move (.ptr _ _) rfl) ?_ | refine seq_run0 (stp_move (.row _ _) rfl) ?_ | refine seq_run0 (stp_move (.rptr _ _ _ _ _) rfl) ?_ | refine seq_run0 (stp_move (.mp _) rfl) ?_
  first | refine seq_run0 (stp_move (.dat _) rfl) ?_ | refine seq_run0 (stp_move (.ptr _ _) rfl) ?_ | refine seq_run0 (stp_move (.row _ _) rfl) ?_ | refine seq_run0 (stp_move (.rptr _ _ _ _ _) rfl) ?_ | refine seq_run0 (stp_move (.mp _) rfl) ?_
  refine seq_run0 (stp_leq rfl rfl) ?_
  first | refine seq_run0 (stp_move (.dat _) rfl) ?_ | refine seq_run0 (stp_move (.ptr _ _) rfl) ?_ | refine seq_run0 (stp_move (.row _ _) rfl) ?_ | refine seq_run0 (stp_move (.rptr _ _ _ _ _) rfl) ?_ | refine seq_run0 (stp_move (.mp _) rfl) ?_
  refine seq_split (j := 3) rfl rfl (fun h1 => ?_) (fun h1 => ?_) rfl
  · -- guard (3, True): runs
    have qh1 := h1
    try simp at qh1
    first | refine seq_g0 rfl rfl h1 (stp_move (.dat _) rfl) ?_ | refine seq_g0 rfl rfl h1 (stp_move (.ptr _ _) rfl) ?_ | refine seq_g0 rfl rfl h1 (stp_move (.row _ _) rfl) ?_ | refine seq_g0 rfl rfl h1 (stp_move (.rptr _ _ _ _ _) rfl) ?_ | refine seq_g0 rfl rfl h1 (stp_move (.mp _) rfl) ?_
    first | refine seq_g0 rfl rfl h1 (stp_move (.dat _) rfl) ?_ | refine seq_g0 rfl rfl h1 (stp_move (.ptr _ _) rfl) ?_ | refine seq_g0 rfl rfl h1 (stp_move (.row _ _) rfl) ?_ | refine seq_g0 rfl rfl h1 (stp_move (.rptr _ _ _ _ _) rfl) ?_ | refine seq_g0 rfl rfl h1 (stp_move (.mp _) rfl) ?_
    refine seq_g0 rfl rfl h1 (stp_leq rfl rfl) ?_
    refine seq_run0 (stp_pick_t rfl h1 rfl) ?_
    first | refine seq_run0 (stp_assign (.dat _) rfl) ?_ | refine seq_run0 (stp_assign (.ptr _ _) rfl) ?_ | refine seq_run0 (stp_assign (.row _ _) rfl) ?_ | refine seq_run0 (stp_assign (.rptr _ _ _ _ _) rfl) ?_ | refine seq_run0 (stp_assign (.mp _) rfl) ?_
    refine awp_ret ?_
    exact ⟨trivial, .inl (congrArg vbool (by simp [inB] at *; omega)), trivial⟩
  · -- guard (3, True): is left out
    have qh1 := h1
    try simp at qh1
    refine seq_skip rfl rfl h1 ?_
    refine seq_skip rfl rfl h1 ?_
    refine seq_skip rfl rfl h1 ?_
    refine seq_run0 (stp_pick_f' rfl h1 rfl) ?_
    first | refine seq_run0 (stp_assign (.dat _) rfl) ?_ | refine seq_run0 (stp_assign (.ptr _ _) rfl) ?_ | refine seq_run0 (stp_assign (.row _ _) rfl) ?_ | refine seq_run0 (stp_assign (.rptr _ _ _ _ _) rfl) ?_ | refine seq_run0 (stp_assign (.mp _) rfl) ?_
    refine awp_ret ?_
    exact ⟨trivial, .inl (congrArg vbool (by simp [inB] at *; omega)), trivial⟩
theorem k_kit_IsMoment (n : Int)  : Fn Try.prog 93 [vint n] (resOf [vbool (momB n)]) := by
  refine ⟨by kernel_rfl, pure_of (us := [vbool (momB n)]) Try.func93 rfl rfl rfl rfl fun X hN => ?_⟩
  refine awp_seq ?_
  refine awp_plain hN rfl ?_
  refine seq_run0 (stp_assign (.dat _) rfl) ?_
  refine awp_seq ?_
  refine awp_plain hN rfl ?_
  first | refine seq_run0 (stp_move (.dat _) rfl) ?_ | refine seq_run0 (stp_move (.ptr _ _) rfl) ?_ | refine seq_run0 (stp_move (.row _ _) rfl) ?_ | refine seq_run0 (stp_move (.rptr _ _ _ _ _) rfl) ?_ | refine seq_run0 (stp_move (.mp _) rfl) ?_
  refine seq_run0 (stp_geq rfl rfl) ?_
  first | refine seq_run0 (stp_move (.dat _) rfl) ?_ | refine seq_run0 (stp_move (.ptr _ _) rfl) ?_ | refine seq_run0 (stp_move (.row _ _) rfl) ?_ | refine seq_run0 (stp_move (.rptr _ _ _ _ _) rfl) ?_ | refine seq_run0 (stp_move (.mp _) rfl) ?_
  refine seq_split (j := 2) rfl rfl (fun h1 => ?_) (fun h1 => ?_) rfl
  · -- guard (2, True): runs
    have qh1 := h1
    try simp at qh1
    first | refine seq_g0 rfl rfl h1 (stp_move (.dat _) rfl) ?_ | refine seq_g0 rfl rfl h1 (stp_move (.ptr _ _) rfl) ?_ | refine seq_g0 rfl rfl h1 (stp_move (.row _ _) rfl) ?_ | refine seq_g0 rfl rfl h1 (stp_move (.rptr _ _ _ _ _) rfl) ?_ | refine seq_g0 rfl rfl h1 (stp_move (.mp _) rfl) ?_
    refine seq_g0 rfl rfl h1 (stp_lss rfl rfl) ?_
    refine seq_run0 (stp_pick_t rfl h1 rfl) ?_
    first | refine seq_run0 (stp_assign (.dat _) rfl) ?_ | refine seq_run0 (stp_assign (.ptr _ _) rfl) ?_ | refine seq_run0 (stp_assign (.row _ _) rfl) ?_ | refine seq_run0 (stp_assign (.rptr _ _ _ _ _) rfl) ?_ | refine seq_run0 (stp_assign (.mp _) rfl) ?_
    refine awp_ret ?_
    exact ⟨trivial, .inl (congrArg vbool (by simp at h1; unfold momB inB; exact decide_eq_decide.2 (by omega))), trivial⟩
  · -- guard (2, True): is left out
    have qh1 := h1
    try simp at qh1
    refine seq_skip rfl rfl h1 ?_
    refine seq_skip rfl rfl h1 ?_
    refine seq_run0 (stp_pick_f' rfl h1 rfl) ?_
    first | refine seq_run0 (stp_assign (.dat _) rfl) ?_ | refine seq_run0 (stp_assign (.ptr _ _) rfl) ?_ | refine seq_run0 (stp_assign (.row _ _) rfl) ?_ | refine seq_run0 (stp_assign (.rptr _ _ _ _ _) rfl) ?_ | refine seq_run0 (stp_assign (.mp _) rfl) ?_
    refine awp_ret ?_
    exact ⟨trivial, .inl (congrArg vbool (by simp at h1; unfold momB inB; exact (decide_eq_false (by omega)).symm)), trivial⟩
theorem k_gateref2_Moment (n : Int)  : Fn Try.prog 96 [vint n] (resOf [vbool (momB n)]) := by
  refine ⟨by kernel_rfl, pure_of (us := [vbool (momB n)]) Try.func96 rfl rfl rfl rfl fun X hN => ?_⟩
  refine awp_seq ?_
  refine awp_plain hN rfl ?_
  refine seq_run0 (stp_assign (.dat _) rfl) ?_
  refine awp_seq ?_
  refine awp_plain hN rfl ?_
  first | refine seq_run0 (stp_move (.dat _) rfl) ?_ | refine seq_run0 (stp_move (.ptr _ _) rfl) ?_ | refine seq_run0 (stp_move (.row _ _) rfl) ?_ | refine seq_run0 (stp_move (.rptr _ _ _ _ _) rfl) ?_ | refine seq_run0 (stp_move (.mp _) rfl) ?_
  refine seq_run0 (stp_call (k_gateref2_in _ _ _) ⟨.inl rfl, .inl rfl, .inl rfl, trivial⟩) ?_
  first | refine seq_run0 (stp_assign (.dat _) rfl) ?_ | refine seq_run0 (stp_assign (.ptr _ _) rfl) ?_ | refine seq_run0 (stp_assign (.row _ _) rfl) ?_ | refine seq_run0 (stp_assign (.rptr _ _ _ _ _) rfl) ?_ | refine seq_run0 (stp_assign (.mp _) rfl) ?_
  refine awp_ret ?_
  exact ⟨trivial, .inl rfl, trivial⟩
theorem k_gatelaw2_when (b : Bool) (e : Int)  : Fn Try.prog 61 [vbool b, vint e] (resOf [vint (if b then e else 0)]) := by
  refine ⟨by kernel_rfl, pure_of (us := [vint (if b then e else 0)]) Try.func61 rfl rfl rfl rfl fun X hN => ?_⟩
  refine awp_seq ?_
  refine awp_plain hN rfl ?_
  refine seq_run0 (stp_assign (.dat _) rfl) ?_
  refine awp_seq ?_
  refine awp_seq ?_
  refine awp_plain hN rfl ?_
  first | refine seq_run0 (stp_move (.dat _) rfl) ?_ | refine seq_run0 (stp_move (.ptr _ _) rfl) ?_ | refine seq_run0 (stp_move (.row _ _) rfl) ?_ | refine seq_run0 (stp_move (.rptr _ _ _ _ _) rfl) ?_ | refine seq_run0 (stp_move (.mp _) rfl) ?_
  refine awp_cond _ rfl (fun h1 => ?_) (fun h1 => ?_)
  · -- yes
    try simp at h1
    refine awp_seq ?_
    refine awp_plain hN rfl ?_
    first | refine seq_run0 (stp_move (.dat _) rfl) ?_ | refine seq_run0 (stp_move (.ptr _ _) rfl) ?_ | refine seq_run0 (stp_move (.row _ _) rfl) ?_ | refine seq_run0 (stp_move (.rptr _ _ _ _ _) rfl) ?_ | refine seq_run0 (stp_move (.mp _) rfl) ?_
    first | refine seq_run0 (stp_assign (.dat _) rfl) ?_ | refine seq_run0 (stp_assign (.ptr _ _) rfl) ?_ | refine seq_run0 (stp_assign (.row _ _) rfl) ?_ | refine seq_run0 (stp_assign (.rptr _ _ _ _ _) rfl) ?_ | refine seq_run0 (stp_assign (.mp _) rfl) ?_
    refine awp_ret ?_
    exact ⟨trivial, .inl (congrArg vint (by simp [h1])), trivial⟩
  · -- no
    try simp at h1
    refine awp_skip ?_
    refine awp_seq ?_
    refine awp_plain hN rfl ?_
    refine seq_run0 (stp_assign (.dat _) rfl) ?_
    refine awp_ret ?_
    exact ⟨trivial, .inl (congrArg vint (by simp [h1])), trivial⟩
theorem k_gatelaw2_momentFault (n : Int)  : Fn Try.prog 43 [vint n] (resOf [vint (if momB n then 0 else 1)]) := by
  refine ⟨by kernel_rfl, pure_of (us := [vint (if momB n then 0 else 1)]) Try.func43 rfl rfl rfl rfl fun X hN => ?_⟩
  refine awp_seq ?_
  refine awp_plain hN rfl ?_
  refine seq_run0 (stp_assign (.dat _) rfl) ?_
  refine awp_seq ?_
  refine awp_plain hN rfl ?_
  first | refine seq_run0 (stp_move (.dat _) rfl) ?_ | refine seq_run0 (stp_move (.ptr _ _) rfl) ?_ | refine seq_run0 (stp_move (.row _ _) rfl) ?_ | refine seq_run0 (stp_move (.rptr _ _ _ _ _) rfl) ?_ | refine seq_run0 (stp_move (.mp _) rfl) ?_
  refine seq_run0 (stp_call (k_gateref2_Moment _) ⟨.inl rfl, trivial⟩) ?_
  refine seq_run0 (stp_not rfl) ?_
  refine seq_run0 (stp_call (k_gatelaw2_when _ _) ⟨.inl rfl, .inl rfl, trivial⟩) ?_
  first | refine seq_run0 (stp_assign (.dat _) rfl) ?_ | refine seq_run0 (stp_assign (.ptr _ _) rfl) ?_ | refine seq_run0 (stp_assign (.row _ _) rfl) ?_ | refine seq_run0 (stp_assign (.rptr _ _ _ _ _) rfl) ?_ | refine seq_run0 (stp_assign (.mp _) rfl) ?_
  refine awp_ret ?_
  exact ⟨trivial, .inl (congrArg vint (by cases momB n <;> rfl)), trivial⟩
theorem k_gatelaw2_errs (l : List Int) (hl : l.length ≤ 1000)  : Fn Try.prog 40 [vlst (ints l)] (resOf [vint (firstNZ l)]) := by
  have hle := ints_len l
  have hln : (ints l).length = l.length := by simp
  refine ⟨by kernel_rfl, pure_of (us := [vint (firstNZ l)]) Try.func40 rfl rfl rfl rfl fun X hN => ?_⟩
  refine awp_seq ?_
  refine awp_plain hN rfl ?_
  refine seq_run0 (stp_assign (.dat _) rfl) ?_
  refine awp_seq ?_
  refine awp_seq ?_
  refine awp_plain hN rfl ?_
  first | refine seq_run0 (stp_move (.dat _) rfl) ?_ | refine seq_run0 (stp_move (.ptr _ _) rfl) ?_ | refine seq_run0 (stp_move (.row _ _) rfl) ?_ | refine seq_run0 (stp_move (.rptr _ _ _ _ _) rfl) ?_ | refine seq_run0 (stp_move (.mp _) rfl) ?_
  first | refine seq_run0 (stp_len_lst tyU143 rfl) ?_ | refine seq_run1 (stp_len_row tyU143 rfl rfl) rfl ?_ | refine seq_run0 (stp_len_nil tyU143 rfl) ?_
  refine seq_run0 (stp_move (.dat _) rfl) ?_
  refine awp_block ?_
  refine awp_loop (fun k : Nat => [(5, .dat (vlst (ints l))), (6, .dat (vint ((ints l).length : Int))), (7, .dat (vint (k : Int)))]) (fun k : Nat => []) (fun k : Nat => k ≤ l.length ∧ firstNZ l = firstNZ (l.drop k)) (fun k : Nat => l.length - k) 0 ⟨by omega, rfl⟩ ⟨rfl, rfl, rfl, trivial⟩ trivial (fun _ => rfl) (fun k hI => ?_)
  obtain ⟨hk, hz⟩ := hI
  refine awp_seq ?_
  refine awp_plain hN rfl ?_
  refine seq_run0 (stp_lss rfl rfl) ?_
  refine awp_seq ?_
  refine awp_cond _ rfl (fun h1 => ?_) (fun h1 => ?_)
  · -- yes
    try simp at h1
    have hkl : k < l.length := h1
    have hat := ints_at hkl
    have hdr := nth_drop (d := (0 : Int)) hkl
    refine awp_skip ?_
    refine awp_seq ?_
    refine awp_block ?_
    refine awp_seq ?_
    refine awp_plain hN rfl ?_
    first | refine seq_run0 (stp_idxE tyE143 rfl rfl (by omega) (by assumption)) ?_ | refine seq_run0 (stp_idxI tyE143 rfl rfl (by omega) (by assumption)) ?_ | refine seq_run1 (stp_idxR tyE143 rfl rfl (by first | rfl | omega | simp) (by first | omega | (simp; omega))) rfl ?_ | refine seq_run1 (stp_idxRI tyE143 rfl rfl (by first | rfl | omega | simp) (by first | omega | (simp; omega))) rfl ?_
    first | refine seq_run1 (stp_load1 tyS30 rfl rfl) rfl ?_ | refine seq_run0 (stp_loadE1 tyS30 rfl (by assumption) rfl) ?_ | refine seq_run1 (stp_loadR1 tyS30 rfl (by first | rfl | omega | simp) (by first | assumption | exact List.getElem?_set_self (by simp; omega)) rfl) rfl ?_
    first | refine seq_run0 (stp_assign (.dat _) rfl) ?_ | refine seq_run0 (stp_assign (.ptr _ _) rfl) ?_ | refine seq_run0 (stp_assign (.row _ _) rfl) ?_ | refine seq_run0 (stp_assign (.rptr _ _ _ _ _) rfl) ?_ | refine seq_run0 (stp_assign (.mp _) rfl) ?_
    refine awp_seq ?_
    refine awp_plain hN rfl ?_
    first | refine seq_run0 (stp_move (.dat _) rfl) ?_ | refine seq_run0 (stp_move (.ptr _ _) rfl) ?_ | refine seq_run0 (stp_move (.row _ _) rfl) ?_ | refine seq_run0 (stp_move (.rptr _ _ _ _ _) rfl) ?_ | refine seq_run0 (stp_move (.mp _) rfl) ?_
    refine seq_run0 (stp_neq rfl rfl) ?_
    refine awp_cond _ rfl (fun h2 => ?_) (fun h2 => ?_)
    · -- yes
      try simp at h2
      refine awp_seq ?_
      refine awp_plain hN rfl ?_
      first | refine seq_run0 (stp_move (.dat _) rfl) ?_ | refine seq_run0 (stp_move (.ptr _ _) rfl) ?_ | refine seq_run0 (stp_move (.row _ _) rfl) ?_ | refine seq_run0 (stp_move (.rptr _ _ _ _ _) rfl) ?_ | refine seq_run0 (stp_move (.mp _) rfl) ?_
      first | refine seq_run0 (stp_assign (.dat _) rfl) ?_ | refine seq_run0 (stp_assign (.ptr _ _) rfl) ?_ | refine seq_run0 (stp_assign (.row _ _) rfl) ?_ | refine seq_run0 (stp_assign (.rptr _ _ _ _ _) rfl) ?_ | refine seq_run0 (stp_assign (.mp _) rfl) ?_
      refine awp_ret ?_
      exact ⟨trivial, .inl (congrArg vint (by rw [hz, hdr, firstNZ, if_neg h2])), trivial⟩
    · -- no
      try simp at h2
      refine awp_skip ?_
      refine awp_plain hN rfl ?_
      refine seq_run0 (stp_add rfl rfl (by omega)) ?_
      first | refine seq_run0 (stp_move (.dat _) rfl) ?_ | refine seq_run0 (stp_move (.ptr _ _) rfl) ?_ | refine seq_run0 (stp_move (.row _ _) rfl) ?_ | refine seq_run0 (stp_move (.rptr _ _ _ _ _) rfl) ?_ | refine seq_run0 (stp_move (.mp _) rfl) ?_
      exact ⟨k + 1, ⟨by omega, by rw [hz, hdr, firstNZ, if_pos h2]⟩, by omega, ⟨rfl, rfl, rfl, trivial⟩, trivial⟩
  · -- no
    try simp at h1
    refine awp_exit ?_
    refine awp_seq ?_
    refine awp_plain hN rfl ?_
    refine seq_run0 (stp_assign (.dat _) rfl) ?_
    refine awp_ret ?_
    exact ⟨trivial, .inl (congrArg vint (by rw [hz, List.drop_eq_nil_of_le (by omega)]; rfl)), trivial⟩
theorem k_gatemake_Below (x n : Int) (hx : -9223372036854775808 ≤ x ∧ x ≤ 9223372036854775807) (hn : n ≤ 9223372036854775807)  : Fn Try.prog 76 [vint x, vint n] (resOf [vint (if n < 1 then 0 else x % n)]) := by
  refine ⟨by kernel_rfl, pure_of (us := [vint (if n < 1 then 0 else x % n)]) Try.func76 rfl rfl rfl rfl fun X hN => ?_⟩
  refine awp_seq ?_
  refine awp_plain hN rfl ?_
  refine seq_run0 (stp_assign (.dat _) rfl) ?_
  refine awp_seq ?_
  refine awp_seq ?_
  refine awp_plain hN rfl ?_
  first | refine seq_run0 (stp_move (.dat _) rfl) ?_ | refine seq_run0 (stp_move (.ptr _ _) rfl) ?_ | refine seq_run0 (stp_move (.row _ _) rfl) ?_ | refine seq_run0 (stp_move (.rptr _ _ _ _ _) rfl) ?_ | refine seq_run0 (stp_move (.mp _) rfl) ?_
  refine seq_run0 (stp_lss rfl rfl) ?_
  refine awp_cond _ rfl (fun h1 => ?_) (fun h1 => ?_)
  · -- yes
    try simp at h1
    refine awp_seq ?_
    refine awp_plain hN rfl ?_
    refine seq_run0 (stp_assign (.dat _) rfl) ?_
    refine awp_ret ?_
    exact ⟨trivial, .inl (congrArg vint (by rw [if_pos h1])), trivial⟩
  · -- no
    try simp at h1
    refine awp_skip ?_
    have hm1 : x.tmod n < n := Int.tmod_lt_of_pos x (by omega)
    have hm2 : -n < x.tmod n := by have := Int.lt_tmod_of_pos x (show 0 < n by omega); omega
    have hm3 : x.tmod n % n = x % n := by have h := Int.tmod_add_mul_tdiv x n; rw [← h, Int.add_mul_emod_self_left]; rw [h]
    refine awp_seq ?_
    refine awp_plain hN rfl ?_
    first | refine seq_run0 (stp_move (.dat _) rfl) ?_ | refine seq_run0 (stp_move (.ptr _ _) rfl) ?_ | refine seq_run0 (stp_move (.row _ _) rfl) ?_ | refine seq_run0 (stp_move (.rptr _ _ _ _ _) rfl) ?_ | refine seq_run0 (stp_move (.mp _) rfl) ?_
    first | refine seq_run0 (stp_move (.dat _) rfl) ?_ | refine seq_run0 (stp_move (.ptr _ _) rfl) ?_ | refine seq_run0 (stp_move (.row _ _) rfl) ?_ | refine seq_run0 (stp_move (.rptr _ _ _ _ _) rfl) ?_ | refine seq_run0 (stp_move (.mp _) rfl) ?_
    first | refine seq_run0 (stp_rem rfl rfl (by omega) (by omega)) ?_ | refine seq_run0 (stp_remT rfl rfl (by omega)) ?_
    first | refine seq_run0 (stp_assign (.dat _) rfl) ?_ | refine seq_run0 (stp_assign (.ptr _ _) rfl) ?_ | refine seq_run0 (stp_assign (.row _ _) rfl) ?_ | refine seq_run0 (stp_assign (.rptr _ _ _ _ _) rfl) ?_ | refine seq_run0 (stp_assign (.mp _) rfl) ?_
    refine awp_seq ?_
    refine awp_seq ?_
    refine awp_plain hN rfl ?_
    first | refine seq_run0 (stp_move (.dat _) rfl) ?_ | refine seq_run0 (stp_move (.ptr _ _) rfl) ?_ | refine seq_run0 (stp_move (.row _ _) rfl) ?_ | refine seq_run0 (stp_move (.rptr _ _ _ _ _) rfl) ?_ | refine seq_run0 (stp_move (.mp _) rfl) ?_
    refine seq_run0 (stp_lss rfl rfl) ?_
    refine awp_cond _ rfl (fun h2 => ?_) (fun h2 => ?_)
    · -- yes
      try simp at h2
      refine awp_plain hN rfl ?_
      first | refine seq_run0 (stp_move (.dat _) rfl) ?_ | refine seq_run0 (stp_move (.ptr _ _) rfl) ?_ | refine seq_run0 (stp_move (.row _ _) rfl) ?_ | refine seq_run0 (stp_move (.rptr _ _ _ _ _) rfl) ?_ | refine seq_run0 (stp_move (.mp _) rfl) ?_
      first | refine seq_run0 (stp_move (.dat _) rfl) ?_ | refine seq_run0 (stp_move (.ptr _ _) rfl) ?_ | refine seq_run0 (stp_move (.row _ _) rfl) ?_ | refine seq_run0 (stp_move (.rptr _ _ _ _ _) rfl) ?_ | refine seq_run0 (stp_move (.mp _) rfl) ?_
      refine seq_run0 (stp_add rfl rfl (by omega)) ?_
      first | refine seq_run0 (stp_assign (.dat _) rfl) ?_ | refine seq_run0 (stp_assign (.ptr _ _) rfl) ?_ | refine seq_run0 (stp_assign (.row _ _) rfl) ?_ | refine seq_run0 (stp_assign (.rptr _ _ _ _ _) rfl) ?_ | refine seq_run0 (stp_assign (.mp _) rfl) ?_
      refine awp_seq ?_
      refine awp_plain hN rfl ?_
      first | refine seq_run0 (stp_move (.dat _) rfl) ?_ | refine seq_run0 (stp_move (.ptr _ _) rfl) ?_ | refine seq_run0 (stp_move (.row _ _) rfl) ?_ | refine seq_run0 (stp_move (.rptr _ _ _ _ _) rfl) ?_ | refine seq_run0 (stp_move (.mp _) rfl) ?_
      first | refine seq_run0 (stp_assign (.dat _) rfl) ?_ | refine seq_run0 (stp_assign (.ptr _ _) rfl) ?_ | refine seq_run0 (stp_assign (.row _ _) rfl) ?_ | refine seq_run0 (stp_assign (.rptr _ _ _ _ _) rfl) ?_ | refine seq_run0 (stp_assign (.mp _) rfl) ?_
      refine awp_ret ?_
      exact ⟨trivial, .inl (congrArg vint (by rw [if_neg (by omega), ← hm3, ← Int.add_emod_right]; exact (Int.emod_eq_of_lt (by omega) (by omega)).symm)), trivial⟩
    · -- no
      try simp at h2
      refine awp_skip ?_
      refine awp_seq ?_
      refine awp_plain hN rfl ?_
      first | refine seq_run0 (stp_move (.dat _) rfl) ?_ | refine seq_run0 (stp_move (.ptr _ _) rfl) ?_ | refine seq_run0 (stp_move (.row _ _) rfl) ?_ | refine seq_run0 (stp_move (.rptr _ _ _ _ _) rfl) ?_ | refine seq_run0 (stp_move (.mp _) rfl) ?_
      first | refine seq_run0 (stp_assign (.dat _) rfl) ?_ | refine seq_run0 (stp_assign (.ptr _ _) rfl) ?_ | refine seq_run0 (stp_assign (.row _ _) rfl) ?_ | refine seq_run0 (stp_assign (.rptr _ _ _ _ _) rfl) ?_ | refine seq_run0 (stp_assign (.mp _) rfl) ?_
      refine awp_ret ?_
      exact ⟨trivial, .inl (congrArg vint (by rw [if_neg (by omega), ← hm3]; exact (Int.emod_eq_of_lt (by omega) (by omega)).symm)), trivial⟩
end Go.Proofs.Ytmcegaabopcmfaa
