/- The law DaysCheck. -/
import Derived.Test.YtmcegaabopcmfaaGp
import Derived.Test.YtmcegaabopcmfaaRo
import Derived.Test.YtmcegaabopcmfaaLift
namespace Go.Proofs.Ytmcegaabopcmfaa
open Go.RowKit
set_option linter.unusedVariables false
set_option maxRecDepth 20000

theorem k_gatelaw2_DaysCheck (L : List Int) (hL : ArgL L)  : Fn Try.prog 4 [vlst (ints L)] (resOf [vbool true]) := by
  obtain ⟨s, a1, hs, q1, q2, i1⟩ := g_setup hL (a := 0) (by omega) (by omega)
  obtain ⟨cs, a2, hc, q3, q4, i2⟩ := g_calls hL (a := a1) 6 (by omega) (by omega) (by omega)
  obtain ⟨ps, a3, hp, q5, q6, i3⟩ := g_phases hL (a := a2) s.xs (by have := hs.xs.len; omega) (fun p hp => (hs.xs.ok p hp).1) (by omega) (by omega)
  have hco : CalOK cs := ⟨by omega, fun p hp => by have := hc.2 p hp; omega⟩
  have hpo : PhaOK ps := ⟨by omega, fun p hq => by have := (hp.2 p hq).1; omega⟩
  have hxl : s.xs.length ≤ 1000 := by have := hs.xs.len; omega
  refine ⟨by kernel_rfl, pure_of (us := [vbool true]) Try.func4 rfl rfl rfl rfl fun X hN => ?_⟩
  refine awp_seq ?_
  refine awp_plain hN rfl ?_
  refine seq_run0 (stp_assign (.dat _) rfl) ?_
  refine awp_seq ?_
  refine awp_plain hN rfl ?_
  first | refine seq_run0 (stp_move (.dat _) rfl) ?_ | refine seq_run0 (stp_move (.ptr _ _) rfl) ?_ | refine seq_run0 (stp_move (.row _ _) rfl) ?_ | refine seq_run0 (stp_move (.rptr _ _ _ _ _) rfl) ?_ | refine seq_run0 (stp_move (.mp _) rfl) ?_
  refine seq_run0 (stp_build [(0, [_])] tyZ25 tyP25 rfl ⟨rfl, .inl ⟨_, rfl, rfl, rfl⟩, rfl, trivial⟩) ?_
  refine seq_run2 (stp_boxA 1 rfl) rfl ?_
  first | refine seq_run0 (stp_assign (.dat _) rfl) ?_ | refine seq_run0 (stp_assign (.ptr _ _) rfl) ?_ | refine seq_run0 (stp_assign (.row _ _) rfl) ?_ | refine seq_run0 (stp_assign (.rptr _ _ _ _ _) rfl) ?_ | refine seq_run0 (stp_assign (.mp _) rfl) ?_
  refine awp_seq ?_
  refine awp_plain hN rfl ?_
  first | refine seq_run0 (stp_move (.dat _) rfl) ?_ | refine seq_run0 (stp_move (.ptr _ _) rfl) ?_ | refine seq_run0 (stp_move (.row _ _) rfl) ?_ | refine seq_run0 (stp_move (.rptr _ _ _ _ _) rfl) ?_ | refine seq_run0 (stp_move (.mp _) rfl) ?_
  refine seq_run2 (stp_imp (i1) rfl trivial rfl) rfl ?_
  first | refine seq_run0 (stp_move (.dat _) rfl) ?_ | refine seq_run0 (stp_move (.ptr _ _) rfl) ?_ | refine seq_run0 (stp_move (.row _ _) rfl) ?_ | refine seq_run0 (stp_move (.rptr _ _ _ _ _) rfl) ?_ | refine seq_run0 (stp_move (.mp _) rfl) ?_
  refine seq_run2 (stp_imp (i2) rfl ⟨.inl rfl, trivial⟩ rfl) rfl ?_
  refine seq_run2 (stp_alloc 2 tyZ54 rfl) rfl ?_
  first | refine seq_run2 (stp_storeW tyS54 rfl rfl rfl rfl) rfl ?_ | refine seq_run2 (stp_storeA tyS54 rfl rfl rfl rfl) rfl ?_
  first | refine seq_run0 (stp_assign (.dat _) rfl) ?_ | refine seq_run0 (stp_assign (.ptr _ _) rfl) ?_ | refine seq_run0 (stp_assign (.row _ _) rfl) ?_ | refine seq_run0 (stp_assign (.rptr _ _ _ _ _) rfl) ?_ | refine seq_run0 (stp_assign (.mp _) rfl) ?_
  refine awp_seq ?_
  refine awp_plain hN rfl ?_
  first | refine seq_run0 (stp_move (.dat _) rfl) ?_ | refine seq_run0 (stp_move (.ptr _ _) rfl) ?_ | refine seq_run0 (stp_move (.row _ _) rfl) ?_ | refine seq_run0 (stp_move (.rptr _ _ _ _ _) rfl) ?_ | refine seq_run0 (stp_move (.mp _) rfl) ?_
  first | refine seq_run0 (stp_fldP tyF54_0 rfl) ?_ | refine seq_run0 (stp_fldE tyF54_0 rfl) ?_ | refine seq_run0 (stp_fldR tyF54_0 rfl) ?_
  first | refine seq_run1 (stp_load1 tyS48 rfl rfl) rfl ?_ | refine seq_run0 (stp_loadE1 tyS48 rfl (by first | assumption | rfl) rfl) ?_ | refine seq_run1 (stp_loadR1 tyS48 rfl (by first | rfl | omega | simp) (by first | assumption | exact List.getElem?_set_self (by simp; omega)) rfl) rfl ?_
  refine seq_run2 (stp_imp (i3) rfl ⟨.inl rfl, trivial⟩ rfl) rfl ?_
  first | refine seq_run0 (stp_assign (.dat _) rfl) ?_ | refine seq_run0 (stp_assign (.ptr _ _) rfl) ?_ | refine seq_run0 (stp_assign (.row _ _) rfl) ?_ | refine seq_run0 (stp_assign (.rptr _ _ _ _ _) rfl) ?_ | refine seq_run0 (stp_assign (.mp _) rfl) ?_
  refine awp_seq ?_
  refine awp_plain hN rfl ?_
  first | refine seq_run0 (stp_fldP tyF54_0 rfl) ?_ | refine seq_run0 (stp_fldE tyF54_0 rfl) ?_ | refine seq_run0 (stp_fldR tyF54_0 rfl) ?_
  first | refine seq_run1 (stp_load1 tyS48 rfl rfl) rfl ?_ | refine seq_run0 (stp_loadE1 tyS48 rfl (by first | assumption | rfl) rfl) ?_ | refine seq_run1 (stp_loadR1 tyS48 rfl (by first | rfl | omega | simp) (by first | assumption | exact List.getElem?_set_self (by simp; omega)) rfl) rfl ?_
  refine seq_run0 (stp_call (k_gateref2_InstancesFault _ hs.xs) ⟨.inl rfl, trivial⟩) ?_
  first | refine seq_run0 (stp_assign (.dat _) rfl) ?_ | refine seq_run0 (stp_assign (.ptr _ _) rfl) ?_ | refine seq_run0 (stp_assign (.row _ _) rfl) ?_ | refine seq_run0 (stp_assign (.rptr _ _ _ _ _) rfl) ?_ | refine seq_run0 (stp_assign (.mp _) rfl) ?_
  refine awp_seq ?_
  refine awp_seq ?_
  refine awp_plain hN rfl ?_
  first | refine seq_run0 (stp_move (.dat _) rfl) ?_ | refine seq_run0 (stp_move (.ptr _ _) rfl) ?_ | refine seq_run0 (stp_move (.row _ _) rfl) ?_ | refine seq_run0 (stp_move (.rptr _ _ _ _ _) rfl) ?_ | refine seq_run0 (stp_move (.mp _) rfl) ?_
  refine seq_run0 (stp_eql rfl rfl) ?_
  refine awp_cond _ rfl (fun h1 => ?_) (fun h1 => ?_)
  · -- yes
    try simp at h1
    refine awp_plain hN rfl ?_
    first | refine seq_run0 (stp_fldP tyF54_0 rfl) ?_ | refine seq_run0 (stp_fldE tyF54_0 rfl) ?_ | refine seq_run0 (stp_fldR tyF54_0 rfl) ?_
    first | refine seq_run1 (stp_load1 tyS48 rfl rfl) rfl ?_ | refine seq_run0 (stp_loadE1 tyS48 rfl (by first | assumption | rfl) rfl) ?_ | refine seq_run1 (stp_loadR1 tyS48 rfl (by first | rfl | omega | simp) (by first | assumption | exact List.getElem?_set_self (by simp; omega)) rfl) rfl ?_
    first | refine seq_run0 (stp_move (.dat _) rfl) ?_ | refine seq_run0 (stp_move (.ptr _ _) rfl) ?_ | refine seq_run0 (stp_move (.row _ _) rfl) ?_ | refine seq_run0 (stp_move (.rptr _ _ _ _ _) rfl) ?_ | refine seq_run0 (stp_move (.mp _) rfl) ?_
    refine seq_run0 (stp_call (k_gateref2_PhasesFault s.xs hxl ps hpo) ⟨.inl rfl, .inl rfl, trivial⟩) ?_
    first | refine seq_run0 (stp_assign (.dat _) rfl) ?_ | refine seq_run0 (stp_assign (.ptr _ _) rfl) ?_ | refine seq_run0 (stp_assign (.row _ _) rfl) ?_ | refine seq_run0 (stp_assign (.rptr _ _ _ _ _) rfl) ?_ | refine seq_run0 (stp_assign (.mp _) rfl) ?_
    refine awp_seq ?_
    refine awp_draw mixed hN rfl rfl ?_
    first | refine seq_run1 (stp_loadA tyS54 rfl rfl rfl) rfl ?_ | refine seq_run0 (stp_loadEA tyS54 rfl (by first | assumption | rfl) rfl) ?_ | refine seq_run1 (stp_loadRA tyS54 rfl (by first | rfl | omega | simp) (by first | assumption | exact List.getElem?_set_self (by simp; omega)) rfl) rfl ?_ | refine seq_run0 (stp_loadEP tyS54 rfl (by first | assumption | rfl) rfl) ?_
    refine seq_run0 (stp_call (k_upstream_CheckSetup s hs.xs) ⟨.inl rfl, trivial⟩) ?_
    first | refine seq_run1 (stp_loadA tyS54 rfl rfl rfl) rfl ?_ | refine seq_run0 (stp_loadEA tyS54 rfl (by first | assumption | rfl) rfl) ?_ | refine seq_run1 (stp_loadRA tyS54 rfl (by first | rfl | omega | simp) (by first | assumption | exact List.getElem?_set_self (by simp; omega)) rfl) rfl ?_ | refine seq_run0 (stp_loadEP tyS54 rfl (by first | assumption | rfl) rfl) ?_
    refine seq_run0 (stp_call (k_gateref2_SetupFault s hs.xs) ⟨.inl rfl, trivial⟩) ?_
    refine seq_run0 (stp_eql rfl rfl) ?_
    first | refine seq_run0 (stp_move (.dat _) rfl) ?_ | refine seq_run0 (stp_move (.ptr _ _) rfl) ?_ | refine seq_run0 (stp_move (.row _ _) rfl) ?_ | refine seq_run0 (stp_move (.rptr _ _ _ _ _) rfl) ?_ | refine seq_run0 (stp_move (.mp _) rfl) ?_
    refine seq_split (j := 5) rfl rfl (fun h2 => ?_) (fun h2 => (by exfalso; simp at h2)) rfl
    have qh2 := h2
    try simp at qh2
    first | refine seq_g0 rfl rfl h2 (stp_move (.dat _) rfl) ?_ | refine seq_g0 rfl rfl h2 (stp_move (.ptr _ _) rfl) ?_ | refine seq_g0 rfl rfl h2 (stp_move (.row _ _) rfl) ?_ | refine seq_g0 rfl rfl h2 (stp_move (.rptr _ _ _ _ _) rfl) ?_ | refine seq_g0 rfl rfl h2 (stp_move (.mp _) rfl) ?_
    refine seq_g0 rfl rfl h2 (stp_call (k_upstream_CheckCalls cs hco) ⟨.inl rfl, trivial⟩) ?_
    first | refine seq_g0 rfl rfl h2 (stp_move (.dat _) rfl) ?_ | refine seq_g0 rfl rfl h2 (stp_move (.ptr _ _) rfl) ?_ | refine seq_g0 rfl rfl h2 (stp_move (.row _ _) rfl) ?_ | refine seq_g0 rfl rfl h2 (stp_move (.rptr _ _ _ _ _) rfl) ?_ | refine seq_g0 rfl rfl h2 (stp_move (.mp _) rfl) ?_
    refine seq_g0 rfl rfl h2 (stp_call (k_gateref2_CallsFault cs hco) ⟨.inl rfl, trivial⟩) ?_
    refine seq_g0 rfl rfl h2 (stp_eql rfl rfl) ?_
    refine seq_run0 (stp_pick_t rfl h2 rfl) ?_
    first | refine seq_run0 (stp_move (.dat _) rfl) ?_ | refine seq_run0 (stp_move (.ptr _ _) rfl) ?_ | refine seq_run0 (stp_move (.row _ _) rfl) ?_ | refine seq_run0 (stp_move (.rptr _ _ _ _ _) rfl) ?_ | refine seq_run0 (stp_move (.mp _) rfl) ?_
    refine seq_split (j := 12) rfl rfl (fun h3 => ?_) (fun h3 => (by exfalso; simp at h3)) rfl
    have qh3 := h3
    try simp at qh3
    first | refine seq_g0 rfl rfl h3 (stp_fldP tyF54_0 rfl) ?_ | refine seq_g0 rfl rfl h3 (stp_fldE tyF54_0 rfl) ?_ | refine seq_g0 rfl rfl h3 (stp_fldR tyF54_0 rfl) ?_
    first | refine seq_g1 rfl rfl h3 (stp_load1 tyS48 rfl rfl) rfl ?_ | refine seq_g0 rfl rfl h3 (stp_loadE1 tyS48 rfl (by first | assumption | rfl) rfl) ?_ | refine seq_g1 rfl rfl h3 (stp_loadR1 tyS48 rfl (by first | rfl | omega | simp) (by first | assumption | exact List.getElem?_set_self (by simp; omega)) rfl) rfl ?_
    first | refine seq_g0 rfl rfl h3 (stp_move (.dat _) rfl) ?_ | refine seq_g0 rfl rfl h3 (stp_move (.ptr _ _) rfl) ?_ | refine seq_g0 rfl rfl h3 (stp_move (.row _ _) rfl) ?_ | refine seq_g0 rfl rfl h3 (stp_move (.rptr _ _ _ _ _) rfl) ?_ | refine seq_g0 rfl rfl h3 (stp_move (.mp _) rfl) ?_
    refine seq_g0 rfl rfl h3 (stp_call (k_upstream_CheckPhases s.xs hs.xs ps hpo) ⟨.inl rfl, .inl rfl, trivial⟩) ?_
    first | refine seq_g0 rfl rfl h3 (stp_move (.dat _) rfl) ?_ | refine seq_g0 rfl rfl h3 (stp_move (.ptr _ _) rfl) ?_ | refine seq_g0 rfl rfl h3 (stp_move (.row _ _) rfl) ?_ | refine seq_g0 rfl rfl h3 (stp_move (.rptr _ _ _ _ _) rfl) ?_ | refine seq_g0 rfl rfl h3 (stp_move (.mp _) rfl) ?_
    refine seq_g0 rfl rfl h3 (stp_eql rfl rfl) ?_
    refine seq_run0 (stp_pick_t rfl h3 rfl) ?_
    first | refine seq_run0 (stp_move (.dat _) rfl) ?_ | refine seq_run0 (stp_move (.ptr _ _) rfl) ?_ | refine seq_run0 (stp_move (.row _ _) rfl) ?_ | refine seq_run0 (stp_move (.rptr _ _ _ _ _) rfl) ?_ | refine seq_run0 (stp_move (.mp _) rfl) ?_
    refine seq_split (j := 20) rfl rfl (fun h4 => ?_) (fun h4 => (by exfalso; simp [h1] at h4)) rfl
    have qh4 := h4
    try simp at qh4
    refine seq_g0 rfl rfl h4 (stp_call (k_gatelaw2_balanced) trivial) ?_
    refine seq_run0 (stp_pick_t rfl h4 rfl) ?_
    first | refine seq_run0 (stp_assign (.dat _) rfl) ?_ | refine seq_run0 (stp_assign (.ptr _ _) rfl) ?_ | refine seq_run0 (stp_assign (.row _ _) rfl) ?_ | refine seq_run0 (stp_assign (.rptr _ _ _ _ _) rfl) ?_ | refine seq_run0 (stp_assign (.mp _) rfl) ?_
    refine ⟨rfl, ?_⟩
    refine awp_ret ?_
    exact ⟨trivial, .inl rfl, trivial⟩
  · -- no
    try simp at h1
    refine awp_skip ?_
    refine awp_seq ?_
    refine awp_draw mixed hN rfl rfl ?_
    first | refine seq_run1 (stp_loadA tyS54 rfl rfl rfl) rfl ?_ | refine seq_run0 (stp_loadEA tyS54 rfl (by first | assumption | rfl) rfl) ?_ | refine seq_run1 (stp_loadRA tyS54 rfl (by first | rfl | omega | simp) (by first | assumption | exact List.getElem?_set_self (by simp; omega)) rfl) rfl ?_ | refine seq_run0 (stp_loadEP tyS54 rfl (by first | assumption | rfl) rfl) ?_
    refine seq_run0 (stp_call (k_upstream_CheckSetup s hs.xs) ⟨.inl rfl, trivial⟩) ?_
    first | refine seq_run1 (stp_loadA tyS54 rfl rfl rfl) rfl ?_ | refine seq_run0 (stp_loadEA tyS54 rfl (by first | assumption | rfl) rfl) ?_ | refine seq_run1 (stp_loadRA tyS54 rfl (by first | rfl | omega | simp) (by first | assumption | exact List.getElem?_set_self (by simp; omega)) rfl) rfl ?_ | refine seq_run0 (stp_loadEP tyS54 rfl (by first | assumption | rfl) rfl) ?_
    refine seq_run0 (stp_call (k_gateref2_SetupFault s hs.xs) ⟨.inl rfl, trivial⟩) ?_
    refine seq_run0 (stp_eql rfl rfl) ?_
    first | refine seq_run0 (stp_move (.dat _) rfl) ?_ | refine seq_run0 (stp_move (.ptr _ _) rfl) ?_ | refine seq_run0 (stp_move (.row _ _) rfl) ?_ | refine seq_run0 (stp_move (.rptr _ _ _ _ _) rfl) ?_ | refine seq_run0 (stp_move (.mp _) rfl) ?_
    refine seq_split (j := 5) rfl rfl (fun h5 => ?_) (fun h5 => (by exfalso; simp at h5)) rfl
    have qh5 := h5
    try simp at qh5
    first | refine seq_g0 rfl rfl h5 (stp_move (.dat _) rfl) ?_ | refine seq_g0 rfl rfl h5 (stp_move (.ptr _ _) rfl) ?_ | refine seq_g0 rfl rfl h5 (stp_move (.row _ _) rfl) ?_ | refine seq_g0 rfl rfl h5 (stp_move (.rptr _ _ _ _ _) rfl) ?_ | refine seq_g0 rfl rfl h5 (stp_move (.mp _) rfl) ?_
    refine seq_g0 rfl rfl h5 (stp_call (k_upstream_CheckCalls cs hco) ⟨.inl rfl, trivial⟩) ?_
    first | refine seq_g0 rfl rfl h5 (stp_move (.dat _) rfl) ?_ | refine seq_g0 rfl rfl h5 (stp_move (.ptr _ _) rfl) ?_ | refine seq_g0 rfl rfl h5 (stp_move (.row _ _) rfl) ?_ | refine seq_g0 rfl rfl h5 (stp_move (.rptr _ _ _ _ _) rfl) ?_ | refine seq_g0 rfl rfl h5 (stp_move (.mp _) rfl) ?_
    refine seq_g0 rfl rfl h5 (stp_call (k_gateref2_CallsFault cs hco) ⟨.inl rfl, trivial⟩) ?_
    refine seq_g0 rfl rfl h5 (stp_eql rfl rfl) ?_
    refine seq_run0 (stp_pick_t rfl h5 rfl) ?_
    first | refine seq_run0 (stp_move (.dat _) rfl) ?_ | refine seq_run0 (stp_move (.ptr _ _) rfl) ?_ | refine seq_run0 (stp_move (.row _ _) rfl) ?_ | refine seq_run0 (stp_move (.rptr _ _ _ _ _) rfl) ?_ | refine seq_run0 (stp_move (.mp _) rfl) ?_
    refine seq_split (j := 12) rfl rfl (fun h6 => ?_) (fun h6 => (by exfalso; simp at h6)) rfl
    have qh6 := h6
    try simp at qh6
    first | refine seq_g0 rfl rfl h6 (stp_fldP tyF54_0 rfl) ?_ | refine seq_g0 rfl rfl h6 (stp_fldE tyF54_0 rfl) ?_ | refine seq_g0 rfl rfl h6 (stp_fldR tyF54_0 rfl) ?_
    first | refine seq_g1 rfl rfl h6 (stp_load1 tyS48 rfl rfl) rfl ?_ | refine seq_g0 rfl rfl h6 (stp_loadE1 tyS48 rfl (by first | assumption | rfl) rfl) ?_ | refine seq_g1 rfl rfl h6 (stp_loadR1 tyS48 rfl (by first | rfl | omega | simp) (by first | assumption | exact List.getElem?_set_self (by simp; omega)) rfl) rfl ?_
    first | refine seq_g0 rfl rfl h6 (stp_move (.dat _) rfl) ?_ | refine seq_g0 rfl rfl h6 (stp_move (.ptr _ _) rfl) ?_ | refine seq_g0 rfl rfl h6 (stp_move (.row _ _) rfl) ?_ | refine seq_g0 rfl rfl h6 (stp_move (.rptr _ _ _ _ _) rfl) ?_ | refine seq_g0 rfl rfl h6 (stp_move (.mp _) rfl) ?_
    refine seq_g0 rfl rfl h6 (stp_call (k_upstream_CheckPhases s.xs hs.xs ps hpo) ⟨.inl rfl, .inl rfl, trivial⟩) ?_
    first | refine seq_g0 rfl rfl h6 (stp_move (.dat _) rfl) ?_ | refine seq_g0 rfl rfl h6 (stp_move (.ptr _ _) rfl) ?_ | refine seq_g0 rfl rfl h6 (stp_move (.row _ _) rfl) ?_ | refine seq_g0 rfl rfl h6 (stp_move (.rptr _ _ _ _ _) rfl) ?_ | refine seq_g0 rfl rfl h6 (stp_move (.mp _) rfl) ?_
    refine seq_g0 rfl rfl h6 (stp_eql rfl rfl) ?_
    refine seq_run0 (stp_pick_t rfl h6 rfl) ?_
    first | refine seq_run0 (stp_move (.dat _) rfl) ?_ | refine seq_run0 (stp_move (.ptr _ _) rfl) ?_ | refine seq_run0 (stp_move (.row _ _) rfl) ?_ | refine seq_run0 (stp_move (.rptr _ _ _ _ _) rfl) ?_ | refine seq_run0 (stp_move (.mp _) rfl) ?_
    refine seq_split (j := 20) rfl rfl (fun h7 => ?_) (fun h7 => (by exfalso; simp [h1] at h7)) rfl
    have qh7 := h7
    try simp at qh7
    refine seq_g0 rfl rfl h7 (stp_call (k_gatelaw2_balanced) trivial) ?_
    refine seq_run0 (stp_pick_t rfl h7 rfl) ?_
    first | refine seq_run0 (stp_assign (.dat _) rfl) ?_ | refine seq_run0 (stp_assign (.ptr _ _) rfl) ?_ | refine seq_run0 (stp_assign (.row _ _) rfl) ?_ | refine seq_run0 (stp_assign (.rptr _ _ _ _ _) rfl) ?_ | refine seq_run0 (stp_assign (.mp _) rfl) ?_
    refine ⟨rfl, ?_⟩
    refine awp_ret ?_
    exact ⟨trivial, .inl rfl, trivial⟩
end Go.Proofs.Ytmcegaabopcmfaa
