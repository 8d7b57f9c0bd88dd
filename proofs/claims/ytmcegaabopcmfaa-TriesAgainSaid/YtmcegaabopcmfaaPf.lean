/- Plain: turns of instances: the reference goes instance by instance and finds the same. -/
import Derived.Test.YtmcegaabopcmfaaPe
namespace Go.Proofs.Ytmcegaabopcmfaa
set_option linter.unusedVariables false

def rk (h : S_api_Health) (q : Bs) : List S_api_Probe → HS → List (Option S_api_Turn)
  | [], _ => []
  | p :: ps, s => if p.Instance = q then trn h p s :: rk h q ps (stp1 h s p.Good).1 else none :: rk h q ps s
theorem rk_len (h : S_api_Health) (q : Bs) : ∀ (ps : List S_api_Probe) (s : HS), (rk h q ps s).length = ps.length
  | [], s => rfl
  | p :: ps, s => by simp only [rk]; split <;> simp [rk_len h q ps]
theorem runT_len (h : S_api_Health) : ∀ (ps : List S_api_Probe) (S : Bs → HS), (runT h ps S).length = ps.length
  | [], S => rfl
  | p :: ps, S => by simp [runT, runT_len h ps]
theorem runT_rk (h : S_api_Health) : ∀ (ps : List S_api_Probe) (S : Bs → HS) (j : Nat) (p : S_api_Probe), ps[j]? = some p → (runT h ps S)[j]? = (rk h p.Instance ps (S p.Instance))[j]?
  | [], S, j, p, hp => by simp at hp
  | p0 :: ps, S, 0, p, hp => by simp at hp; subst hp; simp [runT, rk]
  | p0 :: ps, S, j + 1, p, hp => by
    have hp' : ps[j]? = some p := by simpa using hp
    have ih := runT_rk h ps (upS S p0.Instance (stp1 h (S p0.Instance) p0.Good).1) j p hp'
    simp only [runT, rk, List.getElem?_cons_succ, ih]
    by_cases he : p0.Instance = p.Instance
    · rw [if_pos he]
      simp only [List.getElem?_cons_succ, upS, he, if_true]
    · rw [if_neg he]
      simp only [List.getElem?_cons_succ, upS, if_neg (show ¬ p.Instance = p0.Instance from fun e => he e.symm)]
theorem rk_other (h : S_api_Health) (q : Bs) : ∀ (ps : List S_api_Probe) (s : HS) (j : Nat) (p : S_api_Probe), ps[j]? = some p → p.Instance ≠ q → (rk h q ps s)[j]? = some none
  | [], s, j, p, hp, hq => by simp at hp
  | p0 :: ps, s, 0, p, hp, hq => by simp at hp; subst hp; simp [rk, hq]
  | p0 :: ps, s, j + 1, p, hp, hq => by
    have hp' : ps[j]? = some p := by simpa using hp
    simp only [rk]
    split <;> simp only [List.getElem?_cons_succ] <;> exact rk_other h q ps _ j p hp' hq
/-- a row written over -/
def ovr (a b : Option (Option S_api_Turn)) : Option (Option S_api_Turn) := match a with
  | some (some t) => some (some t)
  | _ => b
theorem inner_ok {h : S_api_Health} (hh : HOK h) (x : S_api_Instance) : ∀ (ps : List S_api_Probe) (k : Nat) (s : HS) (A : List (Option S_api_Turn)), SOK h s → A.length = k + ps.length →
    Ok (forL (fun (k : Nat) (y : S_api_Probe) (s : Bool × Int × (List (Option S_api_Turn))) => gateref2_TurnsOf_L4 h x k y s.1 s.2.1 s.2.2) (fun (s : Bool × Int × (List (Option S_api_Turn))) => gateref2_TurnsOf_E4 s.1 s.2.1 s.2.2) k ps (!s.1, s.2, A))
      fun q => ∃ R : List (Option S_api_Turn), q = .inl R ∧ R.length = A.length ∧ ∀ j, R[j]? = if j < k then A[j]? else ovr ((rk h x.Key ps s)[j - k]?) (A[j]?)
  | [], k, s, A, hs, hl => ok_some ⟨A, rfl, rfl, fun j => by simp [rk, ovr]⟩
  | p :: ps, k, s, A, hs, hl => by
    simp only [List.length_cons] at hl
    have l1 := lim_rng hh s.1
    have e1 : wr (s.2 + 1) = s.2 + 1 := wr_id (by have := hs.1; have := hs.2; omega)
    have step : ∃ (A' : List (Option S_api_Turn)) (s' : HS), gateref2_TurnsOf_L4 h x k p (!s.1) s.2 A = some (.inl (!s'.1, s'.2, A')) ∧ SOK h s' ∧ A'.length = A.length ∧ (∀ j, j ≠ k → A'[j]? = A[j]?) ∧ A'[k]? = ovr ((rk h x.Key (p :: ps) s)[0]?) (A[k]?) ∧ ∀ j, (rk h x.Key (p :: ps) s)[j + 1]? = (rk h x.Key ps s')[j]? := by
      unfold gateref2_TurnsOf_L4 gateref2_TurnsOf_J5
      simp only [e1]
      by_cases hk : p.Instance = x.Key
      · rw [if_neg (by simp [hk])]
        have hrk : rk h x.Key (p :: ps) s = trn h p s :: rk h x.Key ps (stp1 h s p.Good).1 := by simp [rk, hk]
        rw [hrk]
        by_cases hg : (p.Good != s.1) = true
        · have hg' : (p.Good == !s.1) = true := by cases hp : p.Good <;> cases hq : s.1 <;> simp_all
          rw [if_pos hg']
          have es : stp1 h s p.Good = ((s.1, 0), false) := by unfold stp1; rw [if_pos hg]
          refine ⟨A, (s.1, 0), rfl, by have := stp1_ok hh hs p.Good; rw [es] at this; exact this, rfl, fun _ _ => rfl, ?_, fun j => by rw [es]; rfl⟩
          simp [trn, es, ovr]
        · have hg' : ¬ (p.Good == !s.1) = true := by cases hp : p.Good <;> cases hq : s.1 <;> simp_all
          rw [if_neg hg']
          have hcond : ((((!s.1) && decide (s.2 + 1 = h.Fall)) || ((!(!s.1)) && decide (s.2 + 1 = h.Rise))) = true) ↔ ¬ s.2 + 1 < lim h s.1 := by
            have h2 := hs.2
            unfold lim at h2 ⊢
            cases hq : s.1
            · rw [hq] at h2; simp at h2 ⊢; omega
            · rw [hq] at h2; simp at h2 ⊢; omega
          by_cases ht : s.2 + 1 < lim h s.1
          · rw [if_neg (fun hc => hcond.1 hc ht)]
            have es : stp1 h s p.Good = ((s.1, s.2 + 1), false) := by unfold stp1; rw [if_neg hg, if_pos ht]
            refine ⟨A, (s.1, s.2 + 1), rfl, by have := stp1_ok hh hs p.Good; rw [es] at this; exact this, rfl, fun _ _ => rfl, ?_, fun j => by rw [es]; rfl⟩
            simp [trn, es, ovr]
          · rw [if_pos (hcond.2 ht)]
            have es : stp1 h s p.Good = ((!s.1, 0), true) := by unfold stp1; rw [if_neg hg, if_neg ht]
            rw [List.getElem?_eq_getElem (by omega)]
            refine ⟨A.set k (some ⟨p.At, x.Key, !(!s.1)⟩), (!s.1, 0), rfl, by have := stp1_ok hh hs p.Good; rw [es] at this; exact this, by simp, fun j hj => by rw [List.getElem?_set_ne (Ne.symm hj)], ?_, fun j => by rw [es]; rfl⟩
            rw [List.getElem?_set_self (by omega)]
            simp [trn, es, ovr, hk]
      · rw [if_pos (by simpa using hk)]
        have hrk : rk h x.Key (p :: ps) s = none :: rk h x.Key ps s := by simp [rk, hk]
        rw [hrk]
        exact ⟨A, s, rfl, hs, rfl, fun _ _ => rfl, by simp [ovr], fun j => rfl⟩
    obtain ⟨A', s', h1, h2, h3, h4, h5, h6⟩ := step
    show Ok ((gateref2_TurnsOf_L4 h x k p (!s.1) s.2 A).bind _) _
    rw [h1]
    simp only [Option.bind_some, after]
    refine ok_mono (inner_ok hh x ps (k + 1) s' A' h2 (by omega)) ?_
    rintro q ⟨R, hq, hR, hj⟩
    refine ⟨R, hq, by omega, fun j => ?_⟩
    rw [hj j]
    by_cases h7 : j < k
    · rw [if_pos (by omega), if_pos h7, h4 j (by omega)]
    · rw [if_neg h7]
      by_cases h8 : j = k
      · subst h8
        rw [if_pos (by omega), h5, Nat.sub_self]
      · rw [if_neg (by omega), h4 j h8]
        obtain ⟨m, hm⟩ : ∃ m, j - k = m + 1 := ⟨j - k - 1, by omega⟩
        rw [hm, h6 m, show j - (k + 1) = m by omega]
abbrev s0 : HS := (false, 0)
theorem s0_ok {h : S_api_Health} (hh : HOK h) : SOK h s0 := ⟨Int.le_refl _, by have := lim_rng hh false; show (0 : Int) < lim h false; omega⟩
def collect (A : List (Option S_api_Turn)) : List S_api_Turn := A.filterMap id
theorem coll_ok (A : List (Option S_api_Turn)) (hA : A.length ≤ 1000) : gateref2_TurnsOf_E1 A = some (A.filterMap id) := by
  unfold gateref2_TurnsOf_E1
  rw [if_pos (by omega)]
  have key : ∀ (n k : Nat) (out : List S_api_Turn), k + n = A.length → out.length + n ≤ 2000 → rng (fun (k : Nat) (s : (List S_api_Turn)) => gateref2_TurnsOf_L2 A k s) (fun (s : (List S_api_Turn)) => gateref2_TurnsOf_E2 s) n k out = some (out ++ (A.drop k).filterMap id) := by
    intro n
    induction n with
    | zero => intro k out hk ho; simp [rng, gateref2_TurnsOf_E2, List.drop_eq_nil_of_le (show A.length ≤ k by omega)]
    | succ n ih =>
      intro k out hk ho
      show (gateref2_TurnsOf_L2 A k out).bind _ = _
      unfold gateref2_TurnsOf_L2 gateref2_TurnsOf_J3
      rw [List.getElem?_eq_getElem (by omega), List.drop_eq_getElem_cons (show k < A.length by omega)]
      simp only [Option.bind_some]
      cases hx : A[k] with
      | none =>
        simp only [Option.isSome_none, Bool.false_eq_true, if_false, Option.bind_some, after, List.filterMap_cons, id]
        exact ih (k + 1) out (by omega) (by omega)
      | some t =>
        simp only [Option.isSome_some, if_true, Option.bind_some]
        rw [if_pos (by omega)]
        simp only [Option.bind_some, after, List.filterMap_cons, id]
        refine (ih (k + 1) (out ++ [t]) (by omega) (by simp; omega)).trans ?_
        simp
  have := key A.length 0 [] (by omega) (by simp; omega)
  simpa using this
theorem turnsOf_ok {h : S_api_Health} (hh : HOK h) (xs : List S_api_Instance) (hx : xs.length ≤ 1000) (ps : List S_api_Probe) (hp : ps.length ≤ 1000) (hk : ∀ p, p ∈ ps → hasK xs p.Instance = true) :
    m_gateref2_TurnsOf xs h ps = some ((runT h ps fun _ => s0).filterMap id) := by
  unfold m_gateref2_TurnsOf
  rw [if_pos (by omega), if_pos (by omega)]
  have key : ∀ (l : List S_api_Instance) (k : Nat) (A : List (Option S_api_Turn)) (ds : List S_api_Instance), A.length = ps.length → (∀ (j : Nat) p, ps[j]? = some p → A[j]? = some none ∨ A[j]? = (rk h p.Instance ps s0)[j]?) → (∀ (j : Nat) p, ps[j]? = some p → (∃ d, d ∈ ds ∧ d.Key = p.Instance) → A[j]? = (rk h p.Instance ps s0)[j]?) → (∀ p, p ∈ ps → ∃ d, d ∈ ds ++ l ∧ d.Key = p.Instance) →
      forL (fun (k : Nat) (x : S_api_Instance) (s : (List (Option S_api_Turn))) => gateref2_TurnsOf_L1 h ps k x s) (fun (s : (List (Option S_api_Turn))) => gateref2_TurnsOf_E1 s) k l A = some ((runT h ps fun _ => s0).filterMap id) := by
    intro l
    induction l with
    | nil =>
      intro k A ds hA h1 h2 h3
      show gateref2_TurnsOf_E1 A = _
      rw [coll_ok A (by omega)]
      congr 2
      apply List.ext_getElem?
      intro j
      cases hj : ps[j]? with
      | none =>
        have : ps.length ≤ j := List.getElem?_eq_none_iff.1 hj
        rw [List.getElem?_eq_none (by omega), List.getElem?_eq_none (by rw [runT_len]; exact this)]
      | some p =>
        rw [runT_rk h ps _ j p hj, h2 j p hj (by simpa using h3 p (List.mem_of_getElem? hj))]
    | cons x l ih =>
      intro k A ds hA h1 h2 h3
      show (gateref2_TurnsOf_L1 h ps k x A).bind _ = _
      unfold gateref2_TurnsOf_L1
      rw [if_pos (by omega)]
      obtain ⟨q, e1, R, rfl, hR, hj⟩ := inner_ok hh x ps 0 s0 A (s0_ok hh) (by omega)
      have e1' : forL (fun (k : Nat) (x_1 : S_api_Probe) (s : Bool × Int × (List (Option S_api_Turn))) => gateref2_TurnsOf_L4 h x k x_1 s.1 s.2.1 s.2.2) (fun (s : Bool × Int × (List (Option S_api_Turn))) => gateref2_TurnsOf_E4 s.1 s.2.1 s.2.2) 0 ps (true, 0, A) = some (.inl R) := e1
      rw [e1']
      simp only [Option.bind_some, after]
      refine ih (k + 1) R (ds ++ [x]) (by omega) (fun j p hp => ?_) (fun j p hp hd => ?_) (fun p hp => by simpa using h3 p hp)
      · rw [hj j, if_neg (by omega), Nat.sub_zero]
        by_cases hx' : p.Instance = x.Key
        · rw [← hx']
          cases hq : (rk h p.Instance ps s0)[j]? with
          | none => have := h1 j p hp; rw [hq] at this; exact this
          | some o =>
            cases o with
            | none => have := h1 j p hp; rw [hq] at this; exact this
            | some t => exact .inr rfl
        · rw [rk_other h x.Key ps s0 j p hp hx']
          exact h1 j p hp
      · rw [hj j, if_neg (by omega), Nat.sub_zero]
        by_cases hx' : p.Instance = x.Key
        · rw [← hx']
          cases hq : (rk h p.Instance ps s0)[j]? with
          | none =>
            exfalso
            have hl := rk_len h p.Instance ps s0
            have := lt_some hp
            rw [List.getElem?_eq_none_iff] at hq
            omega
          | some o =>
            cases o with
            | none => have := h1 j p hp; rw [hq] at this; rcases this with t | t <;> exact t
            | some t => rfl
        · rw [rk_other h x.Key ps s0 j p hp hx']
          obtain ⟨d, hd1, hd2⟩ := hd
          rcases List.mem_append.1 hd1 with hd1 | hd1
          · exact h2 j p hp ⟨d, hd1, hd2⟩
          · simp at hd1; subst hd1; exact absurd hd2.symm hx'
  refine key xs 0 _ [] (by simp) (fun j p hj => .inl ?_) (fun j p hj hd => by obtain ⟨d, hd, _⟩ := hd; cases hd) (fun p hp => ?_)
  · rw [List.getElem?_replicate, if_pos (lt_some hj)]
  · obtain ⟨i, x, h1, h2⟩ := hasK_iff.1 (hk p hp)
    exact ⟨x, by simpa using List.mem_of_getElem? h1, h2⟩
end Go.Proofs.Ytmcegaabopcmfaa
