/- Plain: probes and healths: the program's checks and the reference's are one function. -/
import Derived.Test.YtmcegaabopcmfaaPc
namespace Go.Proofs.Ytmcegaabopcmfaa
set_option linter.unusedVariables false

def momP (n : Int) : Bool := decide (0 ≤ n) && decide (n ≤ 345686399999)
theorem moment_eq (n : Int) : m_gateref2_Moment n = some (momP n) := rfl
theorem isMoment_eq (n : Int) : m_kit_IsMoment n = some (momP n) := by
  unfold m_kit_IsMoment momP
  congr 2
  by_cases h : n < 345686400000
  · have : n ≤ 345686399999 := by omega
    simp [h, this]
  · have : ¬ n ≤ 345686399999 := by omega
    simp [h, this]
def errsL : List Int → Int
  | [] => 0
  | e :: l => if e ≠ 0 then e else errsL l
theorem errs_eq (l : List Int) (h : l.length ≤ 1000) : m_gatelaw2_errs l = some (errsL l) := by
  unfold m_gatelaw2_errs
  rw [if_pos (by omega)]
  have : ∀ (l : List Int) k, forL (fun (k : Nat) (x : Int) (s : Unit) => gatelaw2_errs_L1 k x) (fun (s : Unit) => gatelaw2_errs_E1) k l () = some (errsL l) := by
    intro l
    induction l with
    | nil => intro k; rfl
    | cons e l ih =>
      intro k
      show (gatelaw2_errs_L1 k e).bind _ = _
      unfold gatelaw2_errs_L1 errsL
      by_cases he : e = 0
      · simp only [he, ne_eq, not_true_eq_false, decide_false, if_false, Bool.false_eq_true, Option.bind_some, after]; exact ih (k + 1)
      · simp [he, after]
  exact this l 0
theorem momentFault_eq (n : Int) : m_gatelaw2_momentFault n = some (if momP n then 0 else 1) := by
  unfold m_gatelaw2_momentFault m_gatelaw2_when
  rw [moment_eq]
  simp only [Option.bind_some]
  cases momP n <;> rfl
def heaF (h : S_api_Health) : Int := if outP h.Rise 1 100 || outP h.Fall 1 100 then 1 else 0
theorem healthFaultP_eq (h : S_api_Health) : m_upstream_HealthFault h = some (heaF h) := by
  unfold m_upstream_HealthFault upstream_HealthFault_J1 m_kit_Outside heaF
  simp only [Option.bind_some]
  show (if outP h.Rise 1 100 = true then _ else if outP h.Fall 1 100 = true then _ else _) = _
  cases outP h.Rise 1 100 <;> cases outP h.Fall 1 100 <;> rfl
theorem healthFaultR_eq (h : S_api_Health) : m_gateref2_HealthFault h = some (heaF h) := by
  unfold m_gateref2_HealthFault gateref2_HealthFault_J1 m_gateref2_in heaF
  simp only [Option.bind_some]
  rw [outP_in, outP_in]
  show (if (!(decide (1 ≤ h.Rise) && decide (h.Rise ≤ 100))) = true then _ else if (!(decide (1 ≤ h.Fall) && decide (h.Fall ≤ 100))) = true then _ else _) = _
  generalize (!(decide (1 ≤ h.Rise) && decide (h.Rise ≤ 100))) = a
  generalize (!(decide (1 ≤ h.Fall) && decide (h.Fall ≤ 100))) = b
  cases a <;> cases b <;> rfl
structure PrbB (ps : List S_api_Probe) : Prop where
  len : ps.length ≤ 1000
  key : ∀ p, p ∈ ps → p.Instance.length ≤ 1000
def pr3 (a b c : Bool) : Int := if (!a) = true then 1 else if (!b) = true then 8 else if c = true then 7 else 0
theorem pr3_eq (a b c : Bool) : (if (!a) = true then some (.inr 1) else if (!b) = true then some (.inr 8) else if c = true then some (.inr 7) else some (.inl ()) : Option (Unit ⊕ Int)) = if pr3 a b c ≠ 0 then some (.inr (pr3 a b c)) else some (.inl ()) := by
  cases a <;> cases b <;> cases c <;> rfl
def lateP (ps : List S_api_Probe) (k : Nat) (x : S_api_Probe) : Bool := match k with
  | 0 => false
  | k + 1 => match ps[k]? with
    | some y => decide (x.At < y.At)
    | none => false
def pr1 (xs : List S_api_Instance) (ps : List S_api_Probe) (k : Nat) (x : S_api_Probe) : Int := pr3 (momP x.At) (hasK xs x.Instance) (lateP ps k x)
def prF (xs : List S_api_Instance) (ps : List S_api_Probe) : Int := if 2000 < ps.length then 2 else feI (pr1 xs ps) 0 ps
theorem late_model {R : Bool → Option (Unit ⊕ Int)} (ps : List S_api_Probe) (k : Nat) (x : S_api_Probe) (hk : k < ps.length) : (if decide (0 < (k : Int)) = true then ((at? ps ((k : Int) - 1)).bind fun (y : S_api_Probe) => R (decide (x.At < y.At))) else R false) = R (lateP ps k x) := by
  cases k with
  | zero => rfl
  | succ k =>
    have e1 : (((k + 1 : Nat) : Int) - 1) = ((k : Nat) : Int) := by omega
    rw [if_pos (by simp), e1, at_nat, List.getElem?_eq_getElem (by omega)]
    simp only [lateP, Option.bind_some]
    rw [List.getElem?_eq_getElem (by omega)]
theorem pfault_eq (xs : List S_api_Instance) (hx : InsB xs) (ps : List S_api_Probe) (hp : PrbB ps) : m_gateref2_ProbesFault xs ps = some (prF xs ps) := by
  unfold m_gateref2_ProbesFault prF
  have hl := hp.len
  rw [if_neg (show ¬ decide (2000 < (ps.length : Int)) = true by simp; omega), if_pos (show ps.length ≤ 1000000000 by omega), if_neg (show ¬ 2000 < ps.length by omega)]
  refine forL_fe (e := pr1 xs ps) (fin := fun (s : Unit) => gateref2_ProbesFault_E1) rfl ps 0 fun j x _ hj => ?_
  have hjl := lt_some hj
  unfold gateref2_ProbesFault_L1
  obtain ⟨r, h1, h2⟩ := instAt_ok xs x.Instance hx.len
  rw [moment_eq, h1]
  simp only [Option.bind_some, h2]
  rw [late_model (R := gateref2_ProbesFault_J2) ps j x (by simpa using hjl)]
  unfold gateref2_ProbesFault_J2
  exact pr3_eq _ _ _
theorem chkP_eq (xs : List S_api_Instance) (hx : InsB xs) (ps : List S_api_Probe) (hp : PrbB ps) : m_upstream_CheckProbes xs ps = some (errsL [ciF xs, prF xs ps]) := by
  unfold m_upstream_CheckProbes
  rw [chkI_eq xs hx]
  simp only [Option.bind_some]
  by_cases hc : ciF xs = 0
  · rw [hc, if_neg (by simp)]
    unfold prF errsL
    have hl := hp.len
    rw [if_neg (show ¬ decide (2000 < (ps.length : Int)) = true by simp; omega), if_pos (show ps.length ≤ 1000000000 by omega), if_neg (show ¬ 2000 < ps.length by omega)]
    rw [forL_fe (e := pr1 xs ps) (fin := fun (s : Unit) => upstream_CheckProbes_E1) rfl ps 0 fun j x _ hj => ?_]
    · simp only [ne_eq, not_true_eq_false, if_false, errsL]
      by_cases hz : feI (pr1 xs ps) 0 ps = 0 <;> simp [hz]
    · have hjl := lt_some hj
      unfold upstream_CheckProbes_L1
      obtain ⟨r, h1, h2, _⟩ := place_ok xs x.Instance hx.len (ciF_srt hc)
      rw [isMoment_eq, h1]
      simp only [Option.bind_some, h2]
      rw [late_model (R := upstream_CheckProbes_J2) ps j x (by simpa using hjl)]
      unfold upstream_CheckProbes_J2
      exact pr3_eq _ _ _
  · rw [if_pos (by simpa using hc)]
    simp [errsL, hc]
theorem hfault_eq (xs : List S_api_Instance) (hx : InsB xs) (h : S_api_Health) (ps : List S_api_Probe) (hp : PrbB ps) : m_upstream_healthFault xs h ps = some (errsL [ciF xs, heaF h, prF xs ps]) := by
  unfold m_upstream_healthFault
  rw [chkI_eq xs hx, healthFaultP_eq, chkP_eq xs hx ps hp]
  simp only [Option.bind_some, errsL]
  by_cases h1 : ciF xs = 0
  · by_cases h2 : heaF h = 0
    · simp [h1, h2]
    · simp [h1, h2]
  · simp [h1]
end Go.Proofs.Ytmcegaabopcmfaa
