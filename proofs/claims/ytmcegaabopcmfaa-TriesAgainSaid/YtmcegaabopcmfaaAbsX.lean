/- The abstract machine: the call of a function that takes and gives own objects. -/
import Derived.Test.YtmcegaabopcmfaaAbsW
namespace Go.Proofs.Ytmcegaabopcmfaa
open Go.RowKit
set_option linter.unusedVariables false

def rnS (σ : Nat → Nat) : Slot → Slot
  | .any => .any
  | .dat v => .dat v
  | .ptr id off => .ptr (σ id) off
  | .row id n => .row (σ id) n
  | .rptr id n size k c => .rptr (σ id) n size k c
  | .mp id => .mp (σ id)
def rnO (σ : Nat → Nat) : AObj → AObj
  | .box an t cs => .box an t (cs.map (rnS σ))
  | o => o
def rn : List (Nat × Nat) → Nat → Nat
  | [], i => i
  | (a, b) :: l, i => cond (Nat.beq i a) b (rn l i)
/-- the callee's object, the caller's -/
def matO (σ : Nat → Nat) : AObj → AObj → Prop
  | .box (some _) t cs, .box _ t' cs' => t = t' ∧ cs' = cs.map (rnS σ)
  | .opq (some _) R, .opq _ R' => R = R'
  | .row e size es, .row e' size' es' => e = e' ∧ size = size' ∧ es = es'
  | .rowA _ e size es, .row e' size' es' => e = e' ∧ size = size' ∧ es = es'
  | .rowA _ e size es, .rowA _ e' size' es' => e = e' ∧ size = size' ∧ es = es'
  | _, _ => False
/-- the caller's object behind the call -/
def outO (σ : Nat → Nat) : AObj → AObj → AObj
  | .box an _ _, .box _ t cs => .box an t (cs.map (rnS σ))
  | .opq an _, .opq _ R => .opq an R
  | .row _ _ _, .rowA _ e size es => .row e size es
  | .rowA v _ _ _, .rowA _ e size es => .rowA v e size es
  | _, o => rnO σ o
def stayB : AObj → Option AObj → Bool
  | _, none => true
  | .box (some _) _ _, some (.box (some _) _ _) => true
  | .opq (some _) _, some (.opq (some _) _) => true
  | .rowA _ _ _ es, some (.rowA _ _ _ es') => true
  | _, _ => false
def stayP : AObj → Option AObj → Prop
  | .rowA _ _ _ es, some (.rowA _ _ _ es') => es'.length = es.length
  | _, _ => True
def newB : AObj → Bool
  | .box none _ _ => true
  | .opq none _ => true
  | .row _ _ _ => true
  | _ => false
abbrev Ent := Nat × AObj × AObj × Option AObj
def preOf (L : List Ent) : List (Nat × AObj) := L.map fun e => (e.1, e.2.1)
def postOf (L : List Ent) (nw : List (Nat × AObj)) : List (Nat × AObj) := L.filterMap (fun e => e.2.2.2.map fun o => (e.1, o)) ++ nw
def rdOf (σ : Nat → Nat) (L : List Ent) (nw : List (Nat × AObj)) : List (Nat × Option (Option AObj)) := L.map (fun e => (σ e.1, some (some e.2.2.1))) ++ nw.map fun p => (σ p.1, none)
def wrOf (σ : Nat → Nat) (L : List Ent) (nw : List (Nat × AObj)) : List (Nat × Option (Option AObj)) := L.map (fun e => (σ e.1, some (e.2.2.2.map (outO σ e.2.2.1)))) ++ nw.map fun p => (σ p.1, some (some (rnO σ p.2)))
def idsOf (L : List Ent) (nw : List (Nat × AObj)) : List Nat := L.map (·.1) ++ nw.map (·.1)
def ndB : List Nat → Bool
  | [] => true
  | a :: l => !(l.any fun b => Nat.beq a b) && ndB l
theorem ndB_nodup : ∀ {l : List Nat}, ndB l = true → l.Nodup
  | [], _ => List.nodup_nil
  | a :: l, h => by
    simp only [ndB, Bool.and_eq_true, Bool.not_eq_true', List.any_eq_false] at h
    refine List.nodup_cons.2 ⟨fun hm => ?_, ndB_nodup h.2⟩
    exact h.1 a hm (by simp)
def matL (σ : Nat → Nat) : List Ent → Prop
  | [] => True
  | (_, o, c, p) :: l => (matO σ o c ∧ stayP o p) ∧ matL σ l
theorem matL_mem {σ : Nat → Nat} : ∀ {L : List Ent}, matL σ L → ∀ e, e ∈ L → matO σ e.2.1 e.2.2.1 ∧ stayP e.2.1 e.2.2.2
  | [], _, e, h => by cases h
  | _ :: l, h, e, he => by
    rcases List.mem_cons.1 he with rfl | he
    · exact h.1
    · exact matL_mem h.2 e he
def argG (s t : Slot) : Prop := s = t ∨ (s = .dat vnil ∧ t = .dat (vlst []))
def argsG (f : Nat → Slot) (σ : Nat → Nat) : List Operand → List Slot → Prop
  | [], [] => True
  | x :: xs, s :: ss => (argG (evS f x) (rnS σ s) ∨ ∃ n, x = .func n ∧ s = .dat (vfn n [])) ∧ argsG f σ xs ss
  | _, _ => False
theorem argsG_rep {f : Nat → Slot} {σ : Nat → Nat} {g : Gh} {w : World} {M : Blks} {ev : Operand → Value} (hev : ∀ n, ev (.func n) = .func (.func n) #[] #[]) : ∀ (xs : List Operand) (ss : List Slot), argsG f σ xs ss → (∀ x, x ∈ xs → RepS g w M (evS f x) (ev x)) →
    xs.length = ss.length ∧ ∀ (j : Nat) (s : Slot), ss[j]? = some s → ∃ v, (xs.map ev)[j]? = some v ∧ RepS g w M (rnS σ s) v
  | [], [], _, _ => ⟨rfl, fun j s h => by simp at h⟩
  | x :: xs, s :: ss, h, hx => by
    obtain ⟨h1, h2⟩ := argsG_rep hev xs ss h.2 fun y hy => hx y (List.mem_cons_of_mem _ hy)
    refine ⟨by simp [h1], fun j s' hj => ?_⟩
    cases j with
    | zero =>
      simp at hj
      subst hj
      refine ⟨ev x, rfl, ?_⟩
      rcases h.1 with (h3 | ⟨h3, h4⟩) | ⟨n, rfl, rfl⟩
      · rw [← h3]; exact hx x (by simp)
      · have h5 := hx x (by simp)
        rw [h3] at h5
        rw [h4]
        exact wk_nil _ _ _ h5
      · rw [hev n]
        exact ⟨[], rfl, rfl, fun j u hj => by simp at hj⟩
    | succ j => exact h2 j s' (by simpa using hj)
  | [], _ :: _, h, _ => h.elim
  | _ :: _, [], h, _ => h.elim

theorem ows_iff : ∀ {l : List (Nat × AObj)}, (l.map (·.1)).Nodup → ∀ {id : Nat} {o : AObj}, ows l id = some (some o) ↔ (id, o) ∈ l
  | [], _, id, o => by simp [ows, upl]
  | (k, x) :: l, nd, id, o => by
    have ih := ows_iff (l := l) (List.nodup_cons.1 nd).2 (id := id) (o := o)
    have hk : k ∉ l.map (·.1) := (List.nodup_cons.1 nd).1
    show cond (Nat.beq id k) (some (some x)) (ows l id) = _ ↔ _
    by_cases h : id = k
    · subst h
      have e1 : Nat.beq id id = true := by simp
      rw [e1]
      simp only [cond_true, Option.some.injEq, List.mem_cons, Prod.mk.injEq, true_and]
      constructor
      · intro h; exact .inl h.symm
      · rintro (h | h)
        · exact h.symm
        · exact absurd (List.mem_map.2 ⟨(id, o), h, rfl⟩) hk
    · rw [beq_false_of h]
      simp only [cond_false, List.mem_cons, Prod.mk.injEq, h, false_and, false_or]
      exact ih
theorem ows_none {id : Nat} : ∀ {l : List (Nat × AObj)}, ows l id = none ↔ id ∉ l.map (·.1)
  | [] => by simp [ows, upl]
  | (k, x) :: l => by
    have ih := ows_none (id := id) (l := l)
    show cond (Nat.beq id k) (some (some x)) (ows l id) = none ↔ _
    by_cases h : id = k
    · subst h
      have e1 : Nat.beq id id = true := by simp
      rw [e1]; simp
    · rw [beq_false_of h]
      simp only [cond_false, List.map_cons, List.mem_cons, h, false_or]
      exact ih
theorem upl_cases {β : Type} (f : Nat → β) : ∀ (l : List (Nat × β)) (x : Nat), (x ∉ keys l ∧ upl f l x = f x) ∨ ∃ q, (x, q) ∈ l ∧ upl f l x = q
  | [], x => .inl ⟨by simp [keys], rfl⟩
  | (k, v) :: l, x => by
    by_cases h : x = k
    · subst h
      exact .inr ⟨v, by simp, by simp [upl]⟩
    · rcases upl_cases f l x with ⟨h1, h2⟩ | ⟨q, h1, h2⟩
      · refine .inl ⟨?_, ?_⟩
        · simp only [keys, List.map_cons, List.mem_cons, h, false_or]; exact h1
        · simp only [upl, beq_false_of h, cond_false]; exact h2
      · exact .inr ⟨q, List.mem_cons_of_mem _ h1, by simp only [upl, beq_false_of h, cond_false]; exact h2⟩
theorem nodup_unique {α : Type} {l : List (Nat × α)} (nd : (l.map (·.1)).Nodup) {k : Nat} {a b : α} (h1 : (k, a) ∈ l) (h2 : (k, b) ∈ l) : a = b := by
  induction l with
  | nil => cases h1
  | cons p l ih =>
    have hk := (List.nodup_cons.1 nd).1
    have hin : ∀ x, (k, x) ∈ l → k ∈ l.map (·.1) := fun x h => List.mem_map.2 ⟨_, h, rfl⟩
    rcases List.mem_cons.1 h1 with e1 | h1
    · rcases List.mem_cons.1 h2 with e2 | h2
      · rw [← e1] at e2; cases e2; rfl
      · rw [← e1] at hk; exact absurd (hin _ h2) hk
    · rcases List.mem_cons.1 h2 with e2 | h2
      · rw [← e2] at hk; exact absurd (hin _ h1) hk
      · exact ih (List.nodup_cons.1 nd).2 h1 h2

theorem RepS.rnIn {g g' : Gh} {w : World} {M M' : Blks} {σ : Nat → Nat} {own : Own} {s : Slot} {v : Value} (hM : Ext M M' w w) (hb : ∀ i, liveB own i = true → g'.bl i = g.bl (σ i) ∧ ∀ n, g'.sv i n = g.sv (σ i) n) (ok : okS own s = true) (h : RepS g w M (rnS σ s) v) : RepS g' w M' s v := by
  cases s with
  | any => trivial
  | dat u => exact u.keep hM h
  | ptr id off => obtain ⟨b, h1, h2⟩ := h; exact ⟨b, by rw [(hb id ok).1]; exact h1, h2⟩
  | row id n => show g'.sv id n = _; rw [(hb id ok).2]; exact h
  | rptr id n size k c => obtain ⟨b, cap, h1, h2⟩ := h; exact ⟨b, cap, by rw [(hb id ok).2]; exact h1, h2⟩
  | mp id => obtain ⟨b, h1, h2⟩ := h; exact ⟨b, by rw [(hb id ok).1]; exact h1, h2⟩
def isB : Option (Option AObj) → Bool
  | some (some (.box _ _ _)) => true
  | some (some (.opq _ _)) => true
  | _ => false
def isR : Option (Option AObj) → Bool
  | some (some (.row _ _ _)) => true
  | _ => false
def okT (own : Own) : Slot → Bool
  | .any => true
  | .dat _ => true
  | .ptr id _ => isB (own id)
  | .row id _ => isR (own id)
  | .rptr id _ _ _ _ => isR (own id)
  | .mp id => isB (own id)
def okP (own : Own) : AObj → Bool
  | .box _ _ cs => cs.all (okT own)
  | .row _ _ _ => true
  | .opq _ _ => true
  | .rowA _ _ _ _ => true
theorem RepS.rnOut {g g' : Gh} {w : World} {M M' : Blks} {σ : Nat → Nat} {own : Own} {s : Slot} {v : Value} (hM : Ext M M' w w) (hb1 : ∀ i, isB (own i) = true → ∀ b, g.bl i = some b → g'.bl (σ i) = some b) (hb2 : ∀ i, isR (own i) = true → ∀ n v, g.sv i n = some v → g'.sv (σ i) n = some v) (ok : okT own s = true) (h : RepS g w M s v) : RepS g' w M' (rnS σ s) v := by
  cases s with
  | any => trivial
  | dat u => exact u.keep hM h
  | ptr id off => obtain ⟨b, h1, h2⟩ := h; exact ⟨b, hb1 id ok _ h1, h2⟩
  | row id n => exact hb2 id ok _ _ h
  | rptr id n size k c => obtain ⟨b, cap, h1, h2⟩ := h; exact ⟨b, cap, hb2 id ok _ _ h1, h2⟩
  | mp id => obtain ⟨b, h1, h2⟩ := h; exact ⟨b, hb1 id ok _ h1, h2⟩

/-- the callee's view of the caller's memory -/
theorem RepO.rnIn {g g' : Gh} {w : World} {M M' : Blks} {σ : Nat → Nat} {own : Own} {i : Nat} {o c : AObj} {A : An} (hM : Ext M M' w w) (hb : ∀ i, liveB own i = true → g'.bl i = g.bl (σ i) ∧ ∀ n, g'.sv i n = g.sv (σ i) n)
    (hi : liveB own i = true) (ok : okO own o = true) (hm : matO σ o c) (hA : ∀ b, g.bl (σ i) = some b → A.bl i = b) (hV : ∀ v, (∃ e size es, c = .row e size es ∧ g.sv (σ i) es.length = some v) ∨ (∃ e size es, c = .rowA v e size es) → A.vl i = v) (h : RepO g w M (σ i) c) :
    RepO g' w M' i (anO A i o) ∧ obk g' i (anO A i o) = obk g (σ i) c := by
  obtain ⟨b1, b2⟩ := hb i hi
  cases o with
  | box an t cs =>
    cases an with
    | none => cases c <;> exact hm.elim
    | some q =>
      cases c with
      | box an' t' cs' =>
        obtain ⟨rfl, rfl⟩ := hm
        obtain ⟨b, l, h1, h0, h2, h3, h4⟩ := h
        refine ⟨⟨b, l, by rw [b1]; exact h1, fun q hq => by cases hq; exact hA b h1, h2, by simpa using h3, fun j s hs => ?_⟩, b1⟩
        obtain ⟨x, g1, g2, g3⟩ := h4 j (rnS σ s) (by rw [List.getElem?_map, hs]; rfl)
        exact ⟨x, g1, g2.rnIn hM hb ((List.all_eq_true.1 ok) s (List.mem_of_getElem? hs)), g3⟩
      | row _ _ _ => exact hm.elim
      | opq _ _ => exact hm.elim
      | rowA _ _ _ _ => exact hm.elim
  | row e size es =>
    cases c with
    | row e' size' es' =>
      obtain ⟨rfl, rfl, rfl⟩ := hm
      obtain ⟨v, xs, h1, h2, h3, h4, h5⟩ := h
      refine ⟨⟨v, xs, by rw [b2]; exact h1, h2, h3, h4, fun k c el u hk hc => ?_⟩, by simp only [anO, obk, b2]⟩
      obtain ⟨x, g1, g2, g3⟩ := h5 k c el u hk hc
      exact ⟨x, g1, u.keep hM g2, g3⟩
    | box _ _ _ => exact hm.elim
    | opq _ _ => exact hm.elim
    | rowA _ _ _ _ => exact hm.elim
  | opq an R =>
    cases an with
    | none => cases c <;> exact hm.elim
    | some q =>
      cases c with
      | opq an' R' =>
        obtain rfl : R = R' := hm
        obtain ⟨b, o, h1, h0, h2, h3⟩ := h
        exact ⟨⟨b, o, by rw [b1]; exact h1, fun q hq => by cases hq; exact hA b h1, h2, h3⟩, b1⟩
      | row _ _ _ => exact hm.elim
      | box _ _ _ => exact hm.elim
      | rowA _ _ _ _ => exact hm.elim
  | rowA v0 e size es =>
    cases c with
    | row e' size' es' =>
      obtain ⟨rfl, rfl, rfl⟩ := hm
      obtain ⟨v, xs, h1, h2, h3, h4, h5⟩ := h
      have hv := hV v (.inl ⟨_, _, _, rfl, h1⟩)
      refine ⟨⟨xs, by rw [b2, hv]; exact h1, by rw [hv]; exact h2, h3, h4, fun k c el u hk hc => ?_⟩, by simp only [anO, obk, hv, h1, Option.bind_some]⟩
      obtain ⟨x, g1, g2, g3⟩ := h5 k c el u hk hc
      exact ⟨x, g1, u.keep hM g2, g3⟩
    | rowA v e' size' es' =>
      obtain ⟨rfl, rfl, rfl⟩ := hm
      obtain ⟨xs, h1, h2, h3, h4, h5⟩ := h
      have hv := hV v (.inr ⟨_, _, _, rfl⟩)
      refine ⟨⟨xs, by rw [b2, hv]; exact h1, by rw [hv]; exact h2, h3, h4, fun k c el u hk hc => ?_⟩, by simp only [anO, obk, hv]⟩
      obtain ⟨x, g1, g2, g3⟩ := h5 k c el u hk hc
      exact ⟨x, g1, u.keep hM g2, g3⟩
    | box _ _ _ => exact hm.elim
    | opq _ _ => exact hm.elim

/-- the caller's view of an object that stayed -/
theorem RepO.rnStay {g G : Gh} {w w0 : World} {M M' M0 : Blks} {σ : Nat → Nat} {own : Own} {i : Nat} {o o' c : AObj} {A : An} (hM : Ext M M' w w) (hb1 : ∀ i, isB (own i) = true → ∀ b, g.bl i = some b → G.bl (σ i) = some b) (hb2 : ∀ i, isR (own i) = true → ∀ n v, g.sv i n = some v → G.sv (σ i) n = some v)
    (hi : own i = some (some o')) (hsp : stayP o (some o')) (ok : okP own o' = true) (hm : matO σ o c) (hs : stayB o (some o') = true) (hA : ∀ b, G.bl (σ i) = some b → A.bl i = b) (hV : ∀ v, (∃ e size es, c = .row e size es ∧ G.sv (σ i) es.length = some v) ∨ (∃ e size es, c = .rowA v e size es) → A.vl i = v) (h0 : RepO G w0 M0 (σ i) c) (h : RepO g w M i (anO A i o')) :
    RepO G w M' (σ i) (outO σ c o') ∧ obk G (σ i) (outO σ c o') = obk g i (anO A i o') := by
  cases o with
  | box an t cs =>
    cases an with
    | none => cases o' <;> simp [stayB] at hs
    | some q =>
      cases o' with
      | box an' t' cs' =>
        cases an' with
        | none => simp [stayB] at hs
        | some q' =>
          cases c with
          | box an'' t'' cs'' =>
            obtain ⟨b, l, h1, h00, h2, h3, h4⟩ := h
            obtain ⟨b', l', r1, r0, _⟩ := h0
            have hbb : b' = b := by have := hb1 i (by rw [hi]; rfl) b h1; rw [this] at r1; cases r1; rfl
            subst hbb
            refine ⟨⟨b', l, hb1 i (by rw [hi]; rfl) b' h1, r0, h2, by simpa using h3, fun j s hsj => ?_⟩, by simp only [outO, anO, obk]; rw [hb1 i (by rw [hi]; rfl) b' h1, h1]⟩
            rw [List.getElem?_map] at hsj
            cases hq : cs'[j]? with
            | none => rw [hq] at hsj; cases hsj
            | some s' =>
              rw [hq] at hsj
              cases hsj
              obtain ⟨x, g1, g2, g3⟩ := h4 j s' hq
              exact ⟨x, g1, g2.rnOut hM hb1 hb2 ((List.all_eq_true.1 ok) s' (List.mem_of_getElem? hq)), g3⟩
          | row _ _ _ => exact hm.elim
          | opq _ _ => exact hm.elim
          | rowA _ _ _ _ => exact hm.elim
      | row _ _ _ => simp [stayB] at hs
      | opq _ _ => simp [stayB] at hs
      | rowA _ _ _ _ => simp [stayB] at hs
  | row e size es => cases o' <;> simp [stayB] at hs
  | opq an R =>
    cases an with
    | none => cases o' <;> simp [stayB] at hs
    | some q =>
      cases o' with
      | opq an' R' =>
        cases an' with
        | none => simp [stayB] at hs
        | some q' =>
          cases c with
          | opq an'' R'' =>
            obtain ⟨b, ob, h1, h00, h2, h3⟩ := h
            obtain ⟨b', l', r1, r0, _⟩ := h0
            have hbb : b' = b := by have := hb1 i (by rw [hi]; rfl) b h1; rw [this] at r1; cases r1; rfl
            subst hbb
            exact ⟨⟨b', ob, hb1 i (by rw [hi]; rfl) b' h1, r0, h2, h3⟩, by simp only [outO, anO, obk]; rw [hb1 i (by rw [hi]; rfl) b' h1, h1]⟩
          | row _ _ _ => exact hm.elim
          | box _ _ _ => exact hm.elim
          | rowA _ _ _ _ => exact hm.elim
      | row _ _ _ => simp [stayB] at hs
      | box _ _ _ => simp [stayB] at hs
      | rowA _ _ _ _ => simp [stayB] at hs
  | rowA v0 e size es =>
    cases o' with
    | rowA v1 e1 size1 es1 =>
      obtain ⟨xs, h1, h2, h3, h4, h5⟩ := h
      cases c with
      | row e' size' es' =>
        obtain ⟨rfl, rfl, rfl⟩ := hm
        obtain ⟨v, ys, r1, _⟩ := h0
        have hv := hV v (.inl ⟨_, _, _, rfl, r1⟩)
        have hl : es1.length = es.length := hsp
        have h1' : G.sv (σ i) es1.length = some (A.vl i) := by rw [hl, r1, hv]
        refine ⟨⟨A.vl i, xs, h1', h2, h3, h4, fun k c el u hk hc => ?_⟩, by simp only [outO, anO, obk]; rw [h1']; rfl⟩
        obtain ⟨x, g1, g2, g3⟩ := h5 k c el u hk hc
        exact ⟨x, g1, u.keep hM g2, g3⟩
      | rowA v e' size' es' =>
        obtain ⟨rfl, rfl, rfl⟩ := hm
        obtain ⟨ys, r1, _⟩ := h0
        have hv := hV v (.inr ⟨_, _, _, rfl⟩)
        have hl : es1.length = es.length := hsp
        rw [hv] at h1 h2
        refine ⟨⟨xs, by rw [hl]; exact r1, h2, h3, h4, fun k c el u hk hc => ?_⟩, by simp only [outO, anO, obk, hv]⟩
        obtain ⟨x, g1, g2, g3⟩ := h5 k c el u hk hc
        exact ⟨x, g1, u.keep hM g2, g3⟩
      | box _ _ _ => exact hm.elim
      | opq _ _ => exact hm.elim
    | row _ _ _ => simp [stayB] at hs
    | opq _ _ => simp [stayB] at hs
    | box _ _ _ => simp [stayB] at hs
/-- the caller's view of a new object -/
theorem RepO.rnNew {g G : Gh} {w : World} {M M' : Blks} {σ : Nat → Nat} {own : Own} {i : Nat} {o : AObj} {A : An} (hM : Ext M M' w w) (hb1 : ∀ i, isB (own i) = true → ∀ b, g.bl i = some b → G.bl (σ i) = some b) (hb2 : ∀ i, isR (own i) = true → ∀ n v, g.sv i n = some v → G.sv (σ i) n = some v)
    (hi : own i = some (some o)) (ok : okP own o = true) (hn : newB o = true) (h : RepO g w M i (anO A i o)) :
    RepO G w M' (σ i) (rnO σ o) ∧ obk G (σ i) (rnO σ o) = obk g i (anO A i o) := by
  cases o with
  | box an t cs =>
    cases an with
    | some q => cases hn
    | none =>
      obtain ⟨b, l, h1, h00, h2, h3, h4⟩ := h
      refine ⟨⟨b, l, hb1 i (by rw [hi]; rfl) b h1, h00, h2, by simpa using h3, fun j s hsj => ?_⟩, by simp only [rnO, anO, obk]; rw [hb1 i (by rw [hi]; rfl) b h1, h1]⟩
      rw [List.getElem?_map] at hsj
      cases hq : cs[j]? with
      | none => rw [hq] at hsj; cases hsj
      | some s' =>
        rw [hq] at hsj
        cases hsj
        obtain ⟨x, g1, g2, g3⟩ := h4 j s' hq
        exact ⟨x, g1, g2.rnOut hM hb1 hb2 ((List.all_eq_true.1 ok) s' (List.mem_of_getElem? hq)), g3⟩
  | row e size es =>
    obtain ⟨v, xs, h1, h2, h3, h4, h5⟩ := h
    refine ⟨⟨v, xs, hb2 i (by rw [hi]; rfl) _ _ h1, h2, h3, h4, fun k c el u hk hc => ?_⟩, by simp only [rnO, anO, obk]; rw [hb2 i (by rw [hi]; rfl) _ _ h1, h1]⟩
    obtain ⟨x, g1, g2, g3⟩ := h5 k c el u hk hc
    exact ⟨x, g1, u.keep hM g2, g3⟩
  | opq an R =>
    cases an with
    | some q => cases hn
    | none =>
      obtain ⟨b, ob, h1, h00, h2, h3⟩ := h
      exact ⟨⟨b, ob, hb1 i (by rw [hi]; rfl) b h1, h00, h2, h3⟩, by simp only [rnO, anO, obk]; rw [hb1 i (by rw [hi]; rfl) b h1, h1]⟩
  | rowA _ _ _ _ => cases hn
end Go.Proofs.Ytmcegaabopcmfaa
