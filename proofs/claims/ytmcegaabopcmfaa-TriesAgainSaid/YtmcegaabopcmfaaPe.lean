/- Plain: turns of instances: the program's run over all probes. -/
import Derived.Test.YtmcegaabopcmfaaPd
namespace Go.Proofs.Ytmcegaabopcmfaa
set_option linter.unusedVariables false

/-- how an instance is: down, row -/
abbrev HS := Bool × Int
def lim (h : S_api_Health) (d : Bool) : Int := if d then h.Rise else h.Fall
def stp1 (h : S_api_Health) (s : HS) (good : Bool) : HS × Bool :=
  if (good != s.1) = true then ((s.1, 0), false) else if s.2 + 1 < lim h s.1 then ((s.1, s.2 + 1), false) else ((!s.1, 0), true)
structure HOK (h : S_api_Health) : Prop where
  r1 : 1 ≤ h.Rise ∧ h.Rise ≤ 100
  f1 : 1 ≤ h.Fall ∧ h.Fall ≤ 100
theorem heaF_ok {h : S_api_Health} (hf : heaF h = 0) : HOK h := by
  unfold heaF outP at hf
  split at hf
  · omega
  · rename_i hc
    simp at hc
    exact ⟨by omega, by omega⟩
def SOK (h : S_api_Health) (s : HS) : Prop := 0 ≤ s.2 ∧ s.2 < lim h s.1
theorem lim_rng {h : S_api_Health} (hh : HOK h) (d : Bool) : 1 ≤ lim h d ∧ lim h d ≤ 100 := by
  unfold lim; cases d
  · exact hh.f1
  · exact hh.r1
theorem stp1_ok {h : S_api_Health} (hh : HOK h) {s : HS} (hs : SOK h s) (g : Bool) : SOK h (stp1 h s g).1 := by
  have l1 := lim_rng hh s.1
  have l2 := lim_rng hh (!s.1)
  unfold stp1
  split
  · exact ⟨Int.le_refl _, by show (0 : Int) < lim h s.1; omega⟩
  · split
    · rename_i h2; exact ⟨by show (0 : Int) ≤ s.2 + 1; have := hs.1; omega, h2⟩
    · exact ⟨Int.le_refl _, by show (0 : Int) < lim h (!s.1); omega⟩
def hs (x : S_upstream_health) : HS := (x.down_, x.row_)
theorem probed_eq {h : S_api_Health} (hh : HOK h) (x : S_upstream_health) (hx : SOK h (hs x)) (g : Bool) :
    m_upstream_health_probed x h g = some ((stp1 h (hs x) g).2, ⟨(stp1 h (hs x) g).1.1, (stp1 h (hs x) g).1.2⟩) := by
  have l1 := lim_rng hh x.down_
  have hx1 : 0 ≤ x.row_ := hx.1
  have hx2 : x.row_ < lim h x.down_ := hx.2
  have e1 : wr (x.row_ + 1) = x.row_ + 1 := wr_id (by omega)
  unfold m_upstream_health_probed upstream_health_probed_J1 stp1 hs
  simp only [e1]
  by_cases hg : (g != x.down_) = true
  · rw [if_pos hg, if_pos hg]
  · rw [if_neg hg, if_neg hg]
    unfold lim
    cases hd : x.down_
    · simp only [Bool.false_eq_true, if_false, decide_eq_true_eq]
      by_cases hq : x.row_ + 1 < h.Fall
      · rw [if_pos hq, if_pos hq]
      · rw [if_neg hq, if_neg hq]
    · simp only [if_true, decide_eq_true_eq]
      by_cases hq : x.row_ + 1 < h.Rise
      · rw [if_pos hq, if_pos hq]
      · rw [if_neg hq, if_neg hq]
/-- all instances at once -/
def upS (S : Bs → HS) (k : Bs) (v : HS) : Bs → HS := fun q => if q = k then v else S q
def trn (h : S_api_Health) (p : S_api_Probe) (s : HS) : Option S_api_Turn := if (stp1 h s p.Good).2 then some ⟨p.At, p.Instance, !(stp1 h s p.Good).1.1⟩ else none
def runT (h : S_api_Health) : List S_api_Probe → (Bs → HS) → List (Option S_api_Turn)
  | [], _ => []
  | p :: ps, S => trn h p (S p.Instance) :: runT h ps (upS S p.Instance (stp1 h (S p.Instance) p.Good).1)
def runS (h : S_api_Health) : List S_api_Probe → (Bs → HS) → Bs → HS
  | [], S => S
  | p :: ps, S => runS h ps (upS S p.Instance (stp1 h (S p.Instance) p.Good).1)
/-- up to a moment -/
def cut (at_ : Int) : List S_api_Probe → List S_api_Probe
  | [] => []
  | p :: ps => if at_ < p.At then [] else p :: cut at_ ps
structure NowB (h : S_api_Health) (xs : List S_api_Instance) (now : List S_upstream_health) (S : Bs → HS) : Prop where
  len : now.length = xs.length
  at_ : ∀ (i : Nat) x y, xs[i]? = some x → now[i]? = some y → hs y = S x.Key
  ok : ∀ q, SOK h (S q)
theorem turns_run {h : S_api_Health} (hh : HOK h) (xs : List S_api_Instance) (hx : xs.length ≤ 1000) (hs' : Srt xs) (at_ : Int) : ∀ (ps : List S_api_Probe) (k : Nat) (now : List S_upstream_health) (S : Bs → HS) (out : List S_api_Turn), NowB h xs now S → (∀ p, p ∈ ps → hasK xs p.Instance = true) → out.length + ps.length ≤ 2000 →
    Ok (forL (fun (k : Nat) (x : S_api_Probe) (s : (List S_upstream_health) × (List S_api_Turn)) => upstream_turns_L2 xs h at_ k x s.1 s.2) (fun (s : (List S_upstream_health) × (List S_api_Turn)) => upstream_turns_E2 s.1 s.2) k ps (now, out))
      fun r => r.1 = out ++ (runT h (cut at_ ps) S).filterMap id ∧ NowB h xs r.2 (runS h (cut at_ ps) S)
  | [], k, now, S, out, hn, hp, hl => ok_some ⟨by simp [cut, runT], hn⟩
  | p :: ps, k, now, S, out, hn, hp, hl => by
    show Ok ((upstream_turns_L2 xs h at_ k p now out).bind _) _
    unfold upstream_turns_L2
    by_cases hc : at_ < p.At
    · rw [if_pos (by simpa using hc)]
      simp only [upstream_turns_J1, Option.map_some, Option.bind_some, after]
      have e1 : cut at_ (p :: ps) = [] := by simp only [cut, if_pos hc]
      rw [e1]
      exact ok_some ⟨by simp [runT], hn⟩
    · rw [if_neg (by simpa using hc)]
      have e1 : cut at_ (p :: ps) = p :: cut at_ ps := by simp only [cut, if_neg hc]
      rw [e1]
      obtain ⟨r, h1, h2, h3⟩ := place_ok xs p.Instance hx hs'
      have hk := hp p (by simp)
      obtain ⟨h4, x, h5, h6⟩ := h3 (by rw [h2]; exact hk)
      have hil := lt_some h5
      have hil2 : r.1.toNat < now.length := by rw [hn.len]; exact hil
      obtain ⟨y, hy⟩ : ∃ y, now[r.1.toNat]? = some y := ⟨_, List.getElem?_eq_getElem hil2⟩
      have e2 : at? now r.1 = some y := by unfold at?; rw [if_pos h4]; exact hy
      have hy1 := hn.at_ _ x y h5 hy
      rw [h6] at hy1
      have hpr := probed_eq hh y (by rw [hy1]; exact hn.ok _) p.Good
      rw [hy1] at hpr
      have e3 : at? (now.set r.1.toNat (S_upstream_health.mk (stp1 h (S p.Instance) p.Good).1.1 (stp1 h (S p.Instance) p.Good).1.2)) r.1 = some (S_upstream_health.mk (stp1 h (S p.Instance) p.Good).1.1 (stp1 h (S p.Instance) p.Good).1.2) := by
        unfold at?; rw [if_pos h4, List.getElem?_set_self hil2]
      have hn' : NowB h xs (now.set r.1.toNat (S_upstream_health.mk (stp1 h (S p.Instance) p.Good).1.1 (stp1 h (S p.Instance) p.Good).1.2)) (upS S p.Instance (stp1 h (S p.Instance) p.Good).1) := by
        refine ⟨by rw [List.length_set]; exact hn.len, fun i x2 y2 hx2 hy2 => ?_, fun q => ?_⟩
        · by_cases hi : r.1.toNat = i
          · subst hi
            rw [List.getElem?_set_self hil2] at hy2
            cases hy2
            rw [h5] at hx2
            cases hx2
            simp only [upS, h6, if_true]
            rfl
          · rw [List.getElem?_set_ne hi] at hy2
            have hne : x2.Key ≠ p.Instance := by
              intro he
              rcases Nat.lt_or_gt_of_ne hi with hlt | hlt
              · have := srt_at hs' h5 hx2 hlt
                rw [h6, he, (cmp_zero _ _).2 rfl] at this; omega
              · have := srt_at hs' hx2 h5 hlt
                rw [h6, he, (cmp_zero _ _).2 rfl] at this; omega
            simp only [upS, if_neg hne]
            exact hn.at_ i x2 y2 hx2 hy2
        · unfold upS
          split
          · exact stp1_ok hh (hn.ok _) _
          · exact hn.ok q
      rw [h1]
      simp only [Option.bind_some, e2, hpr, e3, upstream_turns_J3]
      have hps : ∀ q, q ∈ ps → hasK xs q.Instance = true := fun q hq => hp q (List.mem_cons_of_mem _ hq)
      simp only [List.length_cons] at hl
      cases ht : (stp1 h (S p.Instance) p.Good).2
      · simp only [Bool.false_eq_true, if_false, Option.bind_some, after]
        refine ok_mono (turns_run hh xs hx hs' at_ ps (k + 1) _ _ out hn' hps (by omega)) fun q hq => ⟨?_, hq.2⟩
        rw [hq.1]
        simp [runT, trn, ht]
      · simp only [if_true]
        rw [if_pos (by omega)]
        simp only [Option.bind_some, after]
        refine ok_mono (turns_run hh xs hx hs' at_ ps (k + 1) _ _ _ hn' hps (by simp; omega)) fun q hq => ⟨?_, hq.2⟩
        rw [hq.1]
        simp [runT, trn, ht]
theorem turns_ok {h : S_api_Health} (hh : HOK h) (xs : List S_api_Instance) (hx : xs.length ≤ 1000) (hs' : Srt xs) (ps : List S_api_Probe) (hp : ps.length ≤ 1000) (hk : ∀ p, p ∈ ps → hasK xs p.Instance = true) (at_ : Int) :
    Ok (m_upstream_turns xs h ps at_) fun r => r.1 = (runT h (cut at_ ps) fun _ => (false, 0)).filterMap id ∧ NowB h xs r.2 (runS h (cut at_ ps) fun _ => (false, 0)) := by
  unfold m_upstream_turns
  refine ok_g (by omega) (ok_g (by omega) ?_)
  refine ok_mono (turns_run hh xs hx hs' at_ ps 0 _ (fun _ => (false, 0)) [] ⟨by simp, fun i x y _ hy => ?_, fun q => ⟨Int.le_refl _, by have := lim_rng hh false; show (0 : Int) < lim h false; omega⟩⟩ hk (by simp; omega)) fun q hq => ⟨by simpa using hq.1, hq.2⟩
  rw [List.getElem?_replicate] at hy
  split at hy
  · cases hy; rfl
  · cases hy
end Go.Proofs.Ytmcegaabopcmfaa
