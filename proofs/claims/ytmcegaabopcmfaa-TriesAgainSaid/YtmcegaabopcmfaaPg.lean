/- Plain: who is up at a moment: the program's answer and the reference's. -/
import Derived.Test.YtmcegaabopcmfaaPf
namespace Go.Proofs.Ytmcegaabopcmfaa
set_option linter.unusedVariables false

def foldM (a : Int) : List S_api_Turn → (Bs → Bool) → Bs → Bool
  | [], m => m
  | t :: ts, m => foldM a ts (if t.At ≤ a then upm m t.Instance (!t.Up) else m)
def SrtP (ps : List S_api_Probe) : Prop := ps.Pairwise fun p q => p.At ≤ q.At
theorem feI_late {xs : List S_api_Instance} {all : List S_api_Probe} : ∀ (ps : List S_api_Probe) (k : Nat), all.drop k = ps → feI (pr1 xs all) k ps = 0 → SrtP ps ∧ (∀ p, p ∈ ps → hasK xs p.Instance = true ∧ momP p.At = true) ∧ ∀ y, 0 < k → all[k - 1]? = some y → ∀ p, p ∈ ps → y.At ≤ p.At
  | [], k, hd, hf => ⟨List.Pairwise.nil, fun p h => (by cases h), fun y _ _ p h => (by cases h)⟩
  | x :: ps, k, hd, hf => by
    simp only [feI] at hf
    by_cases hc : pr1 xs all k x ≠ 0
    · rw [if_pos hc] at hf; exact absurd hf hc
    · rw [if_neg hc] at hf
      obtain ⟨d1, d2, d3⟩ := drop_at hd
      obtain ⟨h1, h2, h3⟩ := feI_late ps (k + 1) d3 hf
      have hz : pr3 (momP x.At) (hasK xs x.Instance) (lateP all k x) = 0 := by unfold pr1 at hc; omega
      have hz2 : momP x.At = true ∧ hasK xs x.Instance = true ∧ lateP all k x = false := by
        unfold pr3 at hz
        cases hm : momP x.At <;> cases hk : hasK xs x.Instance <;> cases hl : lateP all k x <;> simp [hm, hk, hl] at hz ⊢
      have h4 : ∀ p, p ∈ ps → x.At ≤ p.At := h3 x (by omega) (by simpa using d2)
      refine ⟨List.Pairwise.cons h4 h1, fun p hp => ?_, fun y hk hy p hp => ?_⟩
      · rcases List.mem_cons.1 hp with rfl | hp
        · exact ⟨hz2.2.1, hz2.1⟩
        · exact h2 p hp
      · have hyx : y.At ≤ x.At := by
          obtain ⟨m, rfl⟩ : ∃ m, k = m + 1 := ⟨k - 1, by omega⟩
          have hl := hz2.2.2
          simp only [Nat.add_sub_cancel] at hy
          simp only [lateP, hy, decide_eq_false_iff_not] at hl
          omega
        rcases List.mem_cons.1 hp with rfl | hp
        · exact hyx
        · have := h4 p hp; omega
theorem prF_ok {xs : List S_api_Instance} {ps : List S_api_Probe} (h : prF xs ps = 0) : SrtP ps ∧ ∀ p, p ∈ ps → hasK xs p.Instance = true ∧ momP p.At = true := by
  unfold prF at h
  split at h
  · omega
  · exact ⟨(feI_late ps 0 rfl h).1, (feI_late ps 0 rfl h).2.1⟩
theorem runT_at (h : S_api_Health) : ∀ (ps : List S_api_Probe) (S : Bs → HS) (t : S_api_Turn), t ∈ (runT h ps S).filterMap id → ∃ p, p ∈ ps ∧ t.At = p.At ∧ t.Instance = p.Instance
  | [], S, t, ht => by simp [runT] at ht
  | p :: ps, S, t, ht => by
    simp only [runT, List.filterMap_cons, id] at ht
    have tail : t ∈ (runT h ps (upS S p.Instance (stp1 h (S p.Instance) p.Good).1)).filterMap id → ∃ p', p' ∈ p :: ps ∧ t.At = p'.At ∧ t.Instance = p'.Instance := fun ht => by
      obtain ⟨q, h1, h2⟩ := runT_at h ps _ t ht
      exact ⟨q, List.mem_cons_of_mem _ h1, h2⟩
    unfold trn at ht
    split at ht
    · exact tail ht
    · rename_i b hb
      split at hb
      · cases hb
        rcases List.mem_cons.1 ht with rfl | ht
        · exact ⟨p, by simp, rfl, rfl⟩
        · exact tail ht
      · cases hb
theorem fold_late (a : Int) : ∀ (ts : List S_api_Turn) (m : Bs → Bool), (∀ t, t ∈ ts → a < t.At) → foldM a ts m = m
  | [], m, _ => rfl
  | t :: ts, m, h => by
    have h1 := h t (by simp)
    simp only [foldM]
    rw [if_neg (by omega)]
    exact fold_late a ts m fun t ht => h t (List.mem_cons_of_mem _ ht)
theorem fold_run (h : S_api_Health) (a : Int) : ∀ (ps : List S_api_Probe) (S : Bs → HS) (m : Bs → Bool), SrtP ps → (∀ q, m q = (S q).1) → ∀ q, foldM a ((runT h ps S).filterMap id) m q = (runS h (cut a ps) S q).1
  | [], S, m, _, hm, q => by simpa [runT, foldM, cut, runS] using hm q
  | p :: ps, S, m, hs, hm, q => by
    obtain ⟨hs1, hs2⟩ := List.pairwise_cons.1 hs
    by_cases hc : a < p.At
    · have e1 : cut a (p :: ps) = [] := by simp only [cut, if_pos hc]
      rw [e1, fold_late]
      · exact hm q
      · intro t ht
        obtain ⟨p', h1, h2, _⟩ := runT_at h (p :: ps) S t ht
        rcases List.mem_cons.1 h1 with rfl | h1
        · omega
        · have := hs1 p' h1; omega
    · have e1 : cut a (p :: ps) = p :: cut a ps := by simp only [cut, if_neg hc]
      rw [e1]
      simp only [runS, runT, List.filterMap_cons, id]
      cases ht : (stp1 h (S p.Instance) p.Good).2
      · have e2 : trn h p (S p.Instance) = none := by simp [trn, ht]
        rw [e2]
        refine fold_run h a ps _ m hs2 (fun q => ?_) q
        unfold upS
        split
        · rename_i hq
          rw [hm q, hq]
          unfold stp1 at ht ⊢
          split
          · rfl
          · rename_i hg
            rw [if_neg hg] at ht
            split
            · rfl
            · rename_i hl
              rw [if_neg hl] at ht
              cases ht
        · exact hm q
      · have e2 : trn h p (S p.Instance) = some ⟨p.At, p.Instance, !(stp1 h (S p.Instance) p.Good).1.1⟩ := by simp [trn, ht]
        rw [e2]
        simp only [foldM]
        rw [if_pos (by omega)]
        refine fold_run h a ps _ _ hs2 (fun q => ?_) q
        unfold upm upS
        split
        · simp
        · exact hm q
/-- the keys of some -/
def keysOf (xs : List S_api_Instance) (p : Bs → Bool) : List Bs := (xs.filter fun x => p x.Key).map fun x => x.Key
theorem upOf_ok {h : S_api_Health} (hh : HOK h) (xs : List S_api_Instance) (hx : InsB xs) (ps : List S_api_Probe) (hp : PrbB ps) (hs : SrtP ps) (hk : ∀ p, p ∈ ps → hasK xs p.Instance = true) (a : Int) :
    m_gateref2_UpOf xs h ps a = some (keysOf xs fun q => !(runS h (cut a ps) (fun _ => s0) q).1) := by
  unfold m_gateref2_UpOf
  rw [turnsOf_ok hh xs hx.len ps hp.len hk]
  have hlen : ((runT h ps fun _ => s0).filterMap id).length ≤ 1000 := Nat.le_trans (List.length_filterMap_le _ _) (by rw [runT_len]; exact hp.len)
  simp only [Option.bind_some]
  rw [if_pos (by omega)]
  have k2 : ∀ (m : Bs → Bool) (l : List S_api_Instance) (k : Nat) (out : List Bs), (∀ x, x ∈ l → x.Key.length ≤ 1000) → out.length + l.length ≤ 2000 → forL (fun (k : Nat) (x : S_api_Instance) (s : (List Bs)) => gateref2_UpOf_L2 m k x s) (fun (s : (List Bs)) => gateref2_UpOf_E2 s) k l out = some (out ++ keysOf l fun q => !m q) := by
    intro m l
    induction l with
    | nil => intro k out _ _; simp [forL, gateref2_UpOf_E2, keysOf]
    | cons x l ih =>
      intro k out hl ho
      simp only [List.length_cons] at ho
      show (gateref2_UpOf_L2 m k x out).bind _ = _
      unfold gateref2_UpOf_L2 gateref2_UpOf_J3
      rw [if_pos (by have := hl x (by simp); omega)]
      cases hm : m x.Key
      · simp only [Bool.not_false, if_true]
        rw [if_pos (by omega)]
        simp only [Option.bind_some, after]
        refine (ih (k + 1) (out ++ [x.Key]) (fun y hy => hl y (List.mem_cons_of_mem _ hy)) (by simp; omega)).trans ?_
        simp [keysOf, hm]
      · simp only [Bool.not_true, Bool.false_eq_true, if_false, Option.bind_some, after]
        refine (ih (k + 1) out (fun y hy => hl y (List.mem_cons_of_mem _ hy)) (by omega)).trans ?_
        simp [keysOf, hm]
  have k1 : ∀ (ts : List S_api_Turn) (k : Nat) (m : Bs → Bool) (n : Nat), (∀ t, t ∈ ts → t.Instance.length ≤ 1000) → n + ts.length ≤ 2000 → forL (fun (k : Nat) (x : S_api_Turn) (s : (Bs → Bool) × Nat) => gateref2_UpOf_L1 a k x s.1 s.2) (fun (s : (Bs → Bool) × Nat) => gateref2_UpOf_E1 xs s.1 s.2) k ts (m, n) = some (keysOf xs fun q => !foldM a ts m q) := by
    intro ts
    induction ts with
    | nil =>
      intro k m n _ _
      show gateref2_UpOf_E1 xs m n = _
      unfold gateref2_UpOf_E1
      have := hx.len
      rw [if_pos (by omega), k2 m xs 0 [] hx.key (by simp; omega)]
      rfl
    | cons t ts ih =>
      intro k m n hl hn
      simp only [List.length_cons] at hn
      show (gateref2_UpOf_L1 a k t m n).bind _ = _
      unfold gateref2_UpOf_L1 gateref2_UpOf_J4
      have ht := hl t (by simp)
      simp only [foldM]
      by_cases hc : t.At ≤ a
      · rw [if_pos (by simpa using hc), if_pos ⟨by omega, by omega⟩, if_pos hc]
        simp only [Option.bind_some, after]
        exact ih (k + 1) _ (n + 1) (fun y hy => hl y (List.mem_cons_of_mem _ hy)) (by omega)
      · rw [if_neg (by simpa using hc), if_neg hc]
        simp only [Option.bind_some, after]
        exact ih (k + 1) m n (fun y hy => hl y (List.mem_cons_of_mem _ hy)) (by omega)
  rw [k1 _ 0 (fun _ => false) 0 (fun t ht => ?_) (by omega)]
  · congr 2
    funext q
    rw [fold_run h a ps _ (fun _ => false) hs (fun q => rfl) q]
  · obtain ⟨p, h1, _, h2⟩ := runT_at h ps _ t ht
    rw [h2]; exact hp.key p h1
theorem up_ok {h : S_api_Health} (xs : List S_api_Instance) (hx : InsB xs) (now : List S_upstream_health) (S : Bs → HS) (hn : NowB h xs now S) (ts : List S_api_Turn) :
    forL (fun (k : Nat) (x : S_api_Instance) (s : (List Bs)) => upstream_Up_L1 (ts, now) k x s) (fun (s : (List Bs)) => upstream_Up_E1 s) 0 xs [] = some (keysOf xs (fun q => !(S q).1), 0) := by
  have key : ∀ (l : List S_api_Instance) (k : Nat) (out : List Bs), xs.drop k = l → out.length + l.length ≤ 2000 → forL (fun (k : Nat) (x : S_api_Instance) (s : (List Bs)) => upstream_Up_L1 (ts, now) k x s) (fun (s : (List Bs)) => upstream_Up_E1 s) k l out = some (out ++ keysOf l (fun q => !(S q).1), 0) := by
    intro l
    induction l with
    | nil => intro k out _ _; simp [forL, upstream_Up_E1, keysOf]
    | cons x l ih =>
      intro k out hd ho
      simp only [List.length_cons] at ho
      obtain ⟨d1, d2, d3⟩ := drop_at hd
      obtain ⟨y, hy⟩ : ∃ y, now[k]? = some y := ⟨_, List.getElem?_eq_getElem (by rw [hn.len]; exact d1)⟩
      have hy1 := hn.at_ k x y d2 hy
      show (upstream_Up_L1 (ts, now) k x out).bind _ = _
      unfold upstream_Up_L1 upstream_Up_J2
      rw [show (ts, now).2[k]? = some y from hy]
      have hdn : y.down_ = (S x.Key).1 := by rw [← hy1]; rfl
      simp only [Option.bind_some, hdn]
      cases hm : (S x.Key).1
      · simp only [Bool.not_false, if_true]
        rw [if_pos (by omega)]
        simp only [Option.bind_some, after]
        refine (ih (k + 1) (out ++ [x.Key]) d3 (by simp; omega)).trans ?_
        simp [keysOf, hm]
      · simp only [Bool.not_true, Bool.false_eq_true, if_false, Option.bind_some, after]
        refine (ih (k + 1) out d3 (by omega)).trans ?_
        simp [keysOf, hm]
  have := hx.len
  rw [key xs 0 [] rfl (by simp; omega)]
  rfl
end Go.Proofs.Ytmcegaabopcmfaa
