/- The breaker as a plain machine, the fuse as a plain machine, and that the two go together. No program. -/
namespace Go.Proofs.Ytmcegaabopcmfaa
set_option linter.unusedVariables false
/-- a breaker's four numbers -/
structure Brk where
  fails : Int
  window : Int
  opn : Int
  probes : Int
/-- the program's switch -/
structure Sw where
  now : Int
  state : Int
  opened : Int
  bad : List Int
  asked : Int
  good : Int
/-- the reference's fuse -/
structure Fu where
  opn : Bool
  since : Int
  bad : List Int
  asked : Int
  good : Int
  latest : Int

def tEnd : Int := 345686400000

def swTime (s : Sw) (t : Int) : Int := if 0 ≤ t ∧ t < tEnd then (if t < s.now then 7 else 0) else 1
def swStateAt (b : Brk) (s : Sw) (t : Int) : Int := if s.state = 1 ∧ s.opened + b.opn ≤ t then 2 else s.state
def swPass (b : Brk) (s : Sw) (t : Int) : Sw :=
  if swStateAt b s t = s.state then { s with now := t } else { s with state := swStateAt b s t, asked := 0, good := 0, now := t }
def swTrip (s : Sw) (t : Int) : Sw := { s with state := 1, opened := t, bad := [] }
def swAsk (b : Brk) (s : Sw) (t : Int) : Bool × Sw :=
  let p := swPass b s t
  if p.state = 2 ∧ p.asked < b.probes then (true, { p with asked := p.asked + 1 }) else (decide (p.state = 0), p)
def swTell (b : Brk) (s : Sw) (t : Int) (good : Bool) : Sw :=
  let p := swPass b s t
  if p.state = 2 ∧ good = false then swTrip p t
  else if p.state = 2 then
    (if p.good + 1 = b.probes then { p with good := p.good + 1, state := 0 } else { p with good := p.good + 1 })
  else if p.state = 0 ∧ good = false then
    let l := (p.bad ++ [t]).filter (fun m => !decide (m ≤ t - b.window))
    (if b.fails ≤ l.length then swTrip { p with bad := l } t else { p with bad := l })
  else p

def fuState (b : Brk) (f : Fu) (t : Int) : Int := if f.opn = false then 0 else if t - f.since < b.opn then 1 else 2
def fuTime (f : Fu) (t : Int) : Int := if 0 ≤ t ∧ t < tEnd then (if t < f.latest then 7 else 0) else 1
def fuAsk (b : Brk) (f : Fu) (t : Int) : Bool × Fu :=
  if fuState b f t = 0 then (true, { f with latest := t })
  else if fuState b f t = 1 then (false, { f with latest := t })
  else (decide (f.asked + 1 ≤ b.probes), { f with latest := t, asked := f.asked + 1 })
def fuTurn (o : Bool) (t : Int) : Fu := ⟨o, t, [], 0, 0, t⟩
def fuTell (b : Brk) (f : Fu) (t : Int) (good : Bool) : Fu :=
  if fuState b f t = 0 ∧ good = false then
    (if b.fails ≤ ((f.bad ++ [t]).filter (fun m => decide (t - b.window < m))).length then fuTurn true t
     else { f with latest := t, bad := f.bad ++ [t] })
  else if fuState b f t = 2 ∧ good = false then fuTurn true t
  else if fuState b f t = 2 then
    (if f.good + 1 = b.probes then fuTurn false t else { f with latest := t, good := f.good + 1 })
  else { f with latest := t }

/-- the two go together -/
def Rel (b : Brk) (s : Sw) (f : Fu) : Prop :=
  s.now = f.latest ∧
  ((s.state = 0 ∧ f.opn = false ∧ f.good = 0 ∧ ∃ t0, t0 ≤ s.now ∧ s.bad = f.bad.filter (fun m => decide (t0 - b.window < m))) ∨
   (s.state = 1 ∧ f.opn = true ∧ s.opened = f.since ∧ s.bad = [] ∧ f.bad = [] ∧ f.asked = 0 ∧ f.good = 0) ∨
   (s.state = 2 ∧ f.opn = true ∧ f.since + b.opn ≤ s.now ∧ s.bad = [] ∧ f.bad = [] ∧ s.asked = min f.asked b.probes ∧ s.good = f.good ∧ 0 ≤ f.asked))

theorem rel_time {b : Brk} {s : Sw} {f : Fu} (h : Rel b s f) (t : Int) : swTime s t = fuTime f t := by
  unfold swTime fuTime; rw [h.1]
theorem rel_state {b : Brk} {s : Sw} {f : Fu} (h : Rel b s f) (t : Int) (ht : s.now ≤ t) : swStateAt b s t = fuState b f t := by
  obtain ⟨_, ⟨a, c, _⟩ | ⟨a, c, d, _⟩ | ⟨a, c, d, _⟩⟩ := h
  · simp [swStateAt, fuState, a, c]
  · simp only [swStateAt, fuState, a, c]
    by_cases hh : f.since + b.opn ≤ t
    · rw [if_pos ⟨trivial, by omega⟩, if_neg (by simp), if_neg (by omega)]
    · rw [if_neg (by omega), if_neg (by simp), if_pos (by omega)]
  · simp only [swStateAt, fuState, a, c]
    rw [if_neg (by omega), if_neg (by simp), if_neg (by omega)]
theorem ask_pass {b : Brk} {s : Sw} {t : Int} (p : Sw) (h : swPass b s t = p) : swAsk b s t = if p.state = 2 ∧ p.asked < b.probes then (true, { p with asked := p.asked + 1 }) else (decide (p.state = 0), p) := by
  unfold swAsk; rw [h]
theorem rel_ask {b : Brk} {s : Sw} {f : Fu} (h : Rel b s f) (hp : 1 ≤ b.probes) (ho : 1 ≤ b.opn) (t : Int) (ht : s.now ≤ t) :
    (swAsk b s t).1 = (fuAsk b f t).1 ∧ Rel b (swAsk b s t).2 (fuAsk b f t).2 := by
  have hs := rel_state h t ht
  obtain ⟨hn, ⟨a, c, g0, t0, ht0, hb⟩ | ⟨a, c, d, e1, e2, e3, e4⟩ | ⟨a, c, d, e1, e2, e3, e4, e5⟩⟩ := h
  · have hf : fuState b f t = 0 := by simp [fuState, c]
    have hq : fuAsk b f t = (true, { f with latest := t }) := by unfold fuAsk; rw [if_pos hf]
    have hpp : swPass b s t = { s with now := t } := by unfold swPass; rw [if_pos (by rw [hs, hf, a])]
    have hk : swAsk b s t = (true, { s with now := t }) := by
      rw [ask_pass _ hpp, if_neg (by rintro ⟨h1, _⟩; simp only at h1; omega)]
      simp [a]
    rw [hk, hq]
    exact ⟨rfl, rfl, .inl ⟨a, c, g0, t0, by show t0 ≤ t; omega, hb⟩⟩
  · by_cases hh : f.since + b.opn ≤ t
    · have hf : fuState b f t = 2 := by simp only [fuState, c]; rw [if_neg (by simp), if_neg (by omega)]
      have hq : fuAsk b f t = (decide (f.asked + 1 ≤ b.probes), { f with latest := t, asked := f.asked + 1 }) := by unfold fuAsk; rw [if_neg (by omega), if_neg (by omega)]
      have hpp : swPass b s t = { s with state := 2, asked := 0, good := 0, now := t } := by unfold swPass; rw [if_neg (by rw [hs, hf, a]; decide), hs, hf]
      have hk : swAsk b s t = (true, { s with state := 2, asked := 0 + 1, good := 0, now := t }) := by
        rw [ask_pass _ hpp, if_pos ⟨rfl, by show 0 < b.probes; omega⟩]
      rw [hk, hq]
      refine ⟨by rw [e3]; exact (decide_eq_true (by omega)).symm, rfl, .inr (.inr ⟨rfl, c, ?_, e1, e2, ?_, e4.symm, ?_⟩)⟩
      · show f.since + b.opn ≤ t; omega
      · show 0 + 1 = min (f.asked + 1) b.probes; omega
      · show 0 ≤ f.asked + 1; omega
    · have hf : fuState b f t = 1 := by simp only [fuState, c]; rw [if_neg (by simp), if_pos (by omega)]
      have hq : fuAsk b f t = (false, { f with latest := t }) := by unfold fuAsk; rw [if_neg (by omega), if_pos hf]
      have hpp : swPass b s t = { s with now := t } := by unfold swPass; rw [if_pos (by rw [hs, hf, a])]
      have hk : swAsk b s t = (false, { s with now := t }) := by
        rw [ask_pass _ hpp, if_neg (by rintro ⟨h1, _⟩; simp only at h1; omega)]
        simp [a]
      rw [hk, hq]
      exact ⟨rfl, rfl, .inr (.inl ⟨a, c, d, e1, e2, e3, e4⟩)⟩
  · have hf : fuState b f t = 2 := by simp only [fuState, c]; rw [if_neg (by simp), if_neg (by omega)]
    have hq : fuAsk b f t = (decide (f.asked + 1 ≤ b.probes), { f with latest := t, asked := f.asked + 1 }) := by unfold fuAsk; rw [if_neg (by omega), if_neg (by omega)]
    have hpp : swPass b s t = { s with now := t } := by unfold swPass; rw [if_pos (by rw [hs, hf, a])]
    by_cases hlt : s.asked < b.probes
    · have hk : swAsk b s t = (true, { s with asked := s.asked + 1, now := t }) := by
        rw [ask_pass _ hpp, if_pos ⟨a, hlt⟩]
      rw [hk, hq]
      refine ⟨(decide_eq_true (by omega)).symm, rfl, .inr (.inr ⟨a, c, ?_, e1, e2, ?_, e4, ?_⟩)⟩
      · show f.since + b.opn ≤ t; omega
      · show s.asked + 1 = min (f.asked + 1) b.probes; omega
      · show 0 ≤ f.asked + 1; omega
    · have hk : swAsk b s t = (false, { s with now := t }) := by
        rw [ask_pass _ hpp, if_neg (fun h1 => hlt h1.2)]
        simp [a]
      rw [hk, hq]
      refine ⟨(decide_eq_false (by omega)).symm, rfl, .inr (.inr ⟨a, c, ?_, e1, e2, ?_, e4, ?_⟩)⟩
      · show f.since + b.opn ≤ t; omega
      · show s.asked = min (f.asked + 1) b.probes; omega
      · show 0 ≤ f.asked + 1; omega

theorem filt_filt (l : List Int) (a c : Int) (h : a ≤ c) :
    (l.filter (fun m => decide (a < m))).filter (fun m => decide (c < m)) = l.filter (fun m => decide (c < m)) := by
  rw [List.filter_filter]; congr 1; funext m
  by_cases h1 : c < m <;> simp [h1]; omega
theorem not_le_filter (l : List Int) (c : Int) : l.filter (fun m => !decide (m ≤ c)) = l.filter (fun m => decide (c < m)) := by
  congr 1; funext m; by_cases h : c < m
  · have : ¬ m ≤ c := by omega
    simp [h, this]
  · have : m ≤ c := by omega
    simp [h, this]

theorem rel_tell {b : Brk} {s : Sw} {f : Fu} (h : Rel b s f) (hp : 1 ≤ b.probes) (ho : 1 ≤ b.opn) (t : Int) (good : Bool) (ht : s.now ≤ t) :
    Rel b (swTell b s t good) (fuTell b f t good) := by
  have hs := rel_state h t ht
  obtain ⟨hn, ⟨a, c, g0, t0, ht0, hb⟩ | ⟨a, c, d, e1, e2, e3, e4⟩ | ⟨a, c, d, e1, e2, e3, e4, e5⟩⟩ := h
  · have hf : fuState b f t = 0 := by simp [fuState, c]
    simp only [swTell, fuTell, swPass, hs, hf, a, if_true]
    simp only [show ¬ (0:Int) = 2 from by decide, false_and, if_false, true_and]
    cases good
    · simp only [if_true]
      have hl : (s.bad ++ [t]).filter (fun m => !decide (m ≤ t - b.window)) = (f.bad ++ [t]).filter (fun m => decide (t - b.window < m)) := by
        rw [not_le_filter, List.filter_append, List.filter_append, hb, filt_filt _ _ _ (by omega)]
      rw [hl]
      by_cases hc : b.fails ≤ (((f.bad ++ [t]).filter (fun m => decide (t - b.window < m))).length : Int)
      · rw [if_pos hc, if_pos hc]
        exact ⟨rfl, .inr (.inl ⟨rfl, rfl, rfl, rfl, rfl, rfl, rfl⟩)⟩
      · rw [if_neg hc, if_neg hc]
        exact ⟨rfl, .inl ⟨rfl, c, g0, t, by simp, rfl⟩⟩
    · simp only [Bool.true_eq_false, if_false]
      exact ⟨rfl, .inl ⟨rfl, c, g0, t0, by simp; omega, hb⟩⟩
  · by_cases hh : f.since + b.opn ≤ t
    · have hf : fuState b f t = 2 := by simp only [fuState, c]; rw [if_neg (by simp), if_neg (by omega)]
      simp only [swTell, fuTell, swPass, hs, hf, a]
      simp only [show ¬ (2:Int) = 1 from by decide, show ¬ (2:Int) = 0 from by decide, false_and, if_false, true_and, if_true]
      cases good
      · simp only [if_true]
        exact ⟨rfl, .inr (.inl ⟨rfl, rfl, rfl, rfl, rfl, rfl, rfl⟩)⟩
      · simp only [Bool.true_eq_false, if_false, e4]
        by_cases hc : (0:Int) + 1 = b.probes
        · rw [if_pos hc, if_pos hc]
          exact ⟨rfl, .inl ⟨rfl, rfl, rfl, t, by simp, by simp [fuTurn, e1]⟩⟩
        · rw [if_neg hc, if_neg hc]
          exact ⟨rfl, .inr (.inr ⟨rfl, c, by simp; omega, e1, e2, by simp [e3]; omega, rfl, by simp [e3]⟩)⟩
    · have hf : fuState b f t = 1 := by simp only [fuState, c]; rw [if_neg (by simp), if_pos (by omega)]
      simp only [swTell, fuTell, swPass, hs, hf, a]
      simp only [show ¬ (1:Int) = 2 from by decide, show ¬ (1:Int) = 0 from by decide, false_and, if_false, if_true]
      exact ⟨rfl, .inr (.inl ⟨rfl, c, d, e1, e2, e3, e4⟩)⟩
  · have hf : fuState b f t = 2 := by simp only [fuState, c]; rw [if_neg (by simp), if_neg (by omega)]
    simp only [swTell, fuTell, swPass, hs, hf, a]
    simp only [show ¬ (2:Int) = 0 from by decide, false_and, if_false, true_and, if_true]
    cases good
    · simp only [if_true]
      exact ⟨rfl, .inr (.inl ⟨rfl, rfl, rfl, rfl, rfl, rfl, rfl⟩)⟩
    · simp only [Bool.true_eq_false, if_false, e4]
      by_cases hc : f.good + 1 = b.probes
      · rw [if_pos hc, if_pos hc]
        exact ⟨rfl, .inl ⟨rfl, rfl, rfl, t, by simp, by simp [fuTurn, e1]⟩⟩
      · rw [if_neg hc, if_neg hc]
        exact ⟨rfl, .inr (.inr ⟨rfl, c, by simp; omega, e1, e2, e3, rfl, e5⟩)⟩
end Go.Proofs.Ytmcegaabopcmfaa
