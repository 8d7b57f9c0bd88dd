/- The abstract machine: the call of a function that takes and gives own objects, as an operation. -/
import Derived.Test.YtmcegaabopcmfaaAbsX
namespace Go.Proofs.Ytmcegaabopcmfaa
open Go.RowKit
set_option linter.unusedVariables false

theorem inj_nodup {σ : Nat → Nat} : ∀ {l : List Nat}, (l.map σ).Nodup → ∀ i j, i ∈ l → j ∈ l → σ i = σ j → i = j
  | [], _, i, j, h, _, _ => by cases h
  | a :: l, nd, i, j, hi, hj, h => by
    have h1 := List.nodup_cons.1 nd
    rcases List.mem_cons.1 hi with ei | hi'
    · rcases List.mem_cons.1 hj with ej | hj'
      · rw [ei, ej]
      · exact absurd (List.mem_map.2 ⟨j, hj', by rw [← h, ei]⟩) h1.1
    · rcases List.mem_cons.1 hj with ej | hj'
      · exact absurd (List.mem_map.2 ⟨i, hi', by rw [h, ej]⟩) h1.1
      · exact inj_nodup h1.2 i j hi' hj' h
theorem anL_mem {A : An} {l : List (Nat × AObj)} {i : Nat} {o : AObj} : (i, o) ∈ anL A l ↔ ∃ p, (i, p) ∈ l ∧ o = anO A i p := by
  rw [anL_map, List.mem_map]
  constructor
  · rintro ⟨⟨j, p⟩, h1, h2⟩; cases h2; exact ⟨p, h1, rfl⟩
  · rintro ⟨p, h1, rfl⟩; exact ⟨(i, p), h1, rfl⟩
theorem anL_keys (A : An) (l : List (Nat × AObj)) : (anL A l).map (·.1) = l.map (·.1) := by
  rw [anL_map, List.map_map]; rfl
theorem pre_mem {L : List Ent} {i : Nat} {o : AObj} : (i, o) ∈ preOf L ↔ ∃ c p, (i, o, c, p) ∈ L := by
  unfold preOf
  rw [List.mem_map]
  constructor
  · rintro ⟨⟨i', o', c, p⟩, h1, h2⟩; cases h2; exact ⟨c, p, h1⟩
  · rintro ⟨c, p, h⟩; exact ⟨_, h, rfl⟩
theorem post_mem {L : List Ent} {nw : List (Nat × AObj)} {i : Nat} {o : AObj} : (i, o) ∈ postOf L nw ↔ (∃ q c, (i, q, c, some o) ∈ L) ∨ (i, o) ∈ nw := by
  unfold postOf
  rw [List.mem_append, List.mem_filterMap]
  constructor
  · rintro (⟨⟨i', o', c, p⟩, h1, h2⟩ | h)
    · cases p with
      | none => cases h2
      | some p => cases h2; exact .inl ⟨o', c, h1⟩
    · exact .inr h
  · rintro (⟨q, c, h⟩ | h)
    · exact .inl ⟨_, h, rfl⟩
    · exact .inr h
theorem pre_keys (L : List Ent) : (preOf L).map (·.1) = L.map (·.1) := by unfold preOf; rw [List.map_map]; rfl
theorem post_nodup {L : List Ent} {nw : List (Nat × AObj)} (nd : (idsOf L nw).Nodup) : ((postOf L nw).map (·.1)).Nodup := by
  refine List.Nodup.sublist ?_ nd
  unfold postOf idsOf
  rw [List.map_append]
  refine List.Sublist.append ?_ (List.Sublist.refl _)
  induction L with
  | nil => exact List.Sublist.refl _
  | cons e L ih =>
    obtain ⟨i, o, c, p⟩ := e
    have ih' := ih (by
      unfold idsOf at nd ⊢
      simp only [List.map_cons, List.cons_append] at nd
      exact (List.nodup_cons.1 nd).2)
    cases p with
    | none => exact List.Sublist.cons _ ih'
    | some q => exact List.Sublist.cons_cons _ ih'
theorem ids_mem {L : List Ent} {nw : List (Nat × AObj)} {i : Nat} : i ∈ idsOf L nw ↔ (∃ o c p, (i, o, c, p) ∈ L) ∨ ∃ o, (i, o) ∈ nw := by
  unfold idsOf
  rw [List.mem_append, List.mem_map, List.mem_map]
  constructor
  · rintro (⟨⟨i', o, c, p⟩, h, rfl⟩ | ⟨⟨i', o⟩, h, rfl⟩)
    · exact .inl ⟨o, c, p, h⟩
    · exact .inr ⟨o, h⟩
  · rintro (⟨o, c, p, h⟩ | ⟨o, h⟩)
    · exact .inl ⟨_, h, rfl⟩
    · exact .inr ⟨_, h, rfl⟩
theorem wr_keys (σ : Nat → Nat) (L : List Ent) (nw : List (Nat × AObj)) : keys (wrOf σ L nw) = (idsOf L nw).map σ := by
  unfold keys wrOf idsOf
  simp only [List.map_append, List.map_map]
  rfl
theorem wr_mem {σ : Nat → Nat} {L : List Ent} {nw : List (Nat × AObj)} {k : Nat} {q : Option (Option AObj)} : (k, q) ∈ wrOf σ L nw ↔ (∃ i o c p, (i, o, c, p) ∈ L ∧ k = σ i ∧ q = some (p.map (outO σ c))) ∨ ∃ i o, (i, o) ∈ nw ∧ k = σ i ∧ q = some (some (rnO σ o)) := by
  unfold wrOf
  rw [List.mem_append, List.mem_map, List.mem_map]
  constructor
  · rintro (⟨⟨i, o, c, p⟩, h, h2⟩ | ⟨⟨i, o⟩, h, h2⟩)
    · cases h2; exact .inl ⟨i, o, c, p, h, rfl, rfl⟩
    · cases h2; exact .inr ⟨i, o, h, rfl, rfl⟩
  · rintro (⟨i, o, c, p, h, rfl, rfl⟩ | ⟨i, o, h, rfl, rfl⟩)
    · exact .inl ⟨_, h, rfl⟩
    · exact .inr ⟨_, h, rfl⟩
theorem lst_unique {L : List Ent} {nw : List (Nat × AObj)} (nd : (idsOf L nw).Nodup) {i : Nat} {o c : AObj} {p : Option AObj} {o' c' : AObj} {p' : Option AObj} (h1 : (i, o, c, p) ∈ L) (h2 : (i, o', c', p') ∈ L) : (o, c, p) = (o', c', p') :=
  nodup_unique (l := L) (by unfold idsOf at nd; exact (List.nodup_append.1 nd).1) h1 h2
theorem lst_new {L : List Ent} {nw : List (Nat × AObj)} (nd : (idsOf L nw).Nodup) {i : Nat} {o c : AObj} {p : Option AObj} {o' : AObj} (h1 : (i, o, c, p) ∈ L) (h2 : (i, o') ∈ nw) : False := by
  unfold idsOf at nd
  have := (List.nodup_append.1 nd).2.2 i (List.mem_map.2 ⟨_, h1, rfl⟩) i (List.mem_map.2 ⟨_, h2, rfl⟩)
  exact this rfl

section
variable {P : Program} {f : Nat → Slot} {dst : Option Tmp} {ty : TypeId} {pos : String} {af : Array Edge} {gd : Option (Nat × Bool)}
theorem stp_callG {fn : Nat} {xs : List Operand} {ts : Array TypeId} {args : List Slot} {res : Slot} (σ : Nat → Nat) (L : List Ent) (nw : List (Nat × AObj)) (hF : FnG P fn args (preOf L) res (postOf L nw)) (ha : argsG f σ xs args) (hm : matL σ L)
    (hnd : ndB (idsOf L nw) = true) (hnd2 : ndB ((idsOf L nw).map σ) = true) (hst : L.all (fun e => stayB e.2.1 e.2.2.2) = true) (hnw : nw.all (fun p => newB p.2) = true) (hc1 : (args.all (okS (ows (preOf L))) && (preOf L).all fun p => okO (ows (preOf L)) p.2) = true) (hc2 : (okT (ows (postOf L nw)) res && (postOf L nw).all fun p => okP (ows (postOf L nw)) p.2) = true) :
    Stp P ⟨dst, .call { callee := .value (.func fn), args := xs.toArray, argTypes := ts }, ty, pos, af, gd⟩ f ⟨false, rdOf σ L nw, wrOf σ L nw, rnS σ res⟩ := by
  intro X f' own g a w Q hr hd hx hrd K hK
  have nd := ndB_nodup hnd
  have nd2 := ndB_nodup hnd2
  have hinj := inj_nodup nd2
  have ndPre : ((preOf L).map (·.1)).Nodup := by rw [pre_keys]; unfold idsOf at nd; exact (List.nodup_append.1 nd).1
  have ndPost := post_nodup nd
  have hown : ∀ i o c p, (i, o, c, p) ∈ L → own (σ i) = some (some c) := fun i o c p h => hrd (σ i, some (some c)) (by unfold rdOf; exact List.mem_append.2 (.inl (List.mem_map.2 ⟨_, h, rfl⟩)))
  have hnone : ∀ i o, (i, o) ∈ nw → own (σ i) = none := fun i o h => hrd (σ i, none) (by unfold rdOf; exact List.mem_append.2 (.inr (List.mem_map.2 ⟨_, h, rfl⟩)))
  let B : Nat → Prop := fun b => ∃ i o c p, (i, o, c, p) ∈ L ∧ obk g (σ i) c = some b
  let S0 : List Nat := L.filterMap fun e => obk g (σ e.1) e.2.2.1
  have hS0 : ∀ b, b ∈ S0 ↔ B b := fun b => by
    simp only [S0, List.mem_filterMap, B]
    constructor
    · rintro ⟨⟨i, o, c, p⟩, h1, h2⟩; exact ⟨i, o, c, p, h1, h2⟩
    · rintro ⟨i, o, c, p, h1, h2⟩; exact ⟨_, h1, h2⟩
  let M : Blks := Mof X g own
  have hBM : ∀ b, B b → M b := fun b ⟨i, o, c, p, h1, h2⟩ => .inr ⟨σ i, c, hown i o c p h1, h2⟩
  let X' : Ctx := ⟨fun b => M b ∧ ¬ B b, w, S0, 0⟩
  let g' : Gh := ⟨fun i => if i ∈ L.map (·.1) then g.bl (σ i) else none, fun i n => if i ∈ L.map (·.1) then g.sv (σ i) n else none⟩
  let A : An := ⟨fun i => (g.bl (σ i)).getD 0, fun i => match own (σ i) with | some (some (.row _ _ es)) => (g.sv (σ i) es.length).getD undef | some (some (.rowA v _ _ _)) => v | _ => undef⟩
  have hA : ∀ i b, g.bl (σ i) = some b → A.bl i = b := fun i b h => by simp only [A, h, Option.getD_some]
  have hV : ∀ i o c p, (i, o, c, p) ∈ L → ∀ v, (∃ e size es, c = .row e size es ∧ g.sv (σ i) es.length = some v) ∨ (∃ e size es, c = .rowA v e size es) → A.vl i = v := by
    intro i o c p h v hv
    rcases hv with ⟨e, size, es, rfl, hs⟩ | ⟨e, size, es, rfl⟩
    · simp only [A, hown i o _ p h, hs, Option.getD_some]
    · simp only [A, hown i o _ p h]
  have inL : ∀ i o c p, (i, o, c, p) ∈ L → i ∈ L.map (·.1) := fun i o c p h => List.mem_map.2 ⟨_, h, rfl⟩
  have hliv : ∀ i, liveB (ows (preOf L)) i = true → i ∈ L.map (·.1) := fun i h => by
    obtain ⟨o, ho⟩ := liveB_at h
    obtain ⟨c, p, h1⟩ := pre_mem.1 ((ows_iff ndPre).1 ho)
    exact inL i o c p h1
  have hg' : ∀ i, liveB (ows (preOf L)) i = true → g'.bl i = g.bl (σ i) ∧ ∀ n, g'.sv i n = g.sv (σ i) n := fun i h => ⟨if_pos (hliv i h), fun n => if_pos (hliv i h)⟩
  have hlive : ∀ i o c p, (i, o, c, p) ∈ L → liveB (ows (preOf L)) i = true := fun i o c p h => by
    unfold liveB
    rw [(ows_iff ndPre).2 (pre_mem.2 ⟨c, p, h⟩)]
  have hc1' := Bool.and_eq_true_iff.1 hc1
  have hc2' := Bool.and_eq_true_iff.1 hc2
  have hokpre : ∀ i o c p, (i, o, c, p) ∈ L → okO (ows (preOf L)) o = true := fun i o c p h => (List.all_eq_true.1 hc1'.2) (i, o) (pre_mem.2 ⟨c, p, h⟩)
  have hin : ∀ i o c p, (i, o, c, p) ∈ L → ∀ M', Ext M M' w w → RepO g' w M' i (anO A i o) ∧ obk g' i (anO A i o) = obk g (σ i) c := fun i o c p h M' he =>
    RepO.rnIn he hg' (hlive i o c p h) (hokpre i o c p h) (matL_mem hm _ h).1 (hA i) (hV i o c p h) (hr.ob (σ i) c (hown i o c p h))
  have hMM0 : Ext M M w w := ⟨Nat.le_refl _, fun _ _ _ => rfl, fun _ _ h => h⟩
  have hpre : ∀ i o, ows (anL A (preOf L)) i = some (some o) ↔ ∃ q c p, (i, q, c, p) ∈ L ∧ o = anO A i q := fun i o => by
    rw [ows_iff (by rw [anL_keys]; exact ndPre), anL_mem]
    constructor
    · rintro ⟨q, h1, h2⟩; obtain ⟨c, p, h3⟩ := pre_mem.1 h1; exact ⟨q, c, p, h3, h2⟩
    · rintro ⟨q, c, p, h1, h2⟩; exact ⟨q, pre_mem.2 ⟨c, p, h1⟩, h2⟩
  have hMM : ∀ b, Mof X' g' (ows (anL A (preOf L))) b → M b := fun b hb => by
    rcases hb with hb | ⟨i, o, h1, h2⟩
    · exact hb.1
    · obtain ⟨q, c, p, h3, rfl⟩ := (hpre i o).1 h1
      rw [(hin i q c p h3 M hMM0).2] at h2
      exact .inr ⟨σ i, c, hown i q c p h3, h2⟩
  have heM : Ext M (Mof X' g' (ows (anL A (preOf L)))) w w := ⟨Nat.le_refl _, fun _ _ _ => rfl, fun b _ h => hMM b h⟩
  have hmem : Mem X' (ows (anL A (preOf L))) g' w := by
    refine ⟨Kp.refl _ _, fun b hb => ⟨hr.mlt b hb.1, fun h => hb.2 ((hS0 b).1 h)⟩, fun i o ho => ?_, fun i i' o o' b h1 h2 h3 h4 => ?_, fun i o b h1 h2 => ?_, fun i hi => ?_, fun i e size es h1 k hk => ?_⟩
    · obtain ⟨q, c, p, h3, rfl⟩ := (hpre i o).1 ho
      exact (hin i q c p h3 _ heM).1
    · obtain ⟨q, c, p, r1, rfl⟩ := (hpre i o).1 h1
      obtain ⟨q', c', p', r2, rfl⟩ := (hpre i' o').1 h2
      rw [(hin i q c p r1 M hMM0).2] at h3
      rw [(hin i' q' c' p' r2 M hMM0).2] at h4
      exact hinj i i' (ids_mem.2 (.inl ⟨q, c, p, r1⟩)) (ids_mem.2 (.inl ⟨q', c', p', r2⟩)) (hr.sep _ _ _ _ b (hown i q c p r1) (hown i' q' c' p' r2) h3 h4)
    · obtain ⟨q, c, p, r1, rfl⟩ := (hpre i o).1 h1
      rw [(hin i q c p r1 M hMM0).2] at h2
      exact .inl ((hS0 b).2 ⟨i, q, c, p, r1, h2⟩)
    · have hn : i ∉ L.map (·.1) := by
        have := ows_none.1 hi
        rw [anL_keys, pre_keys] at this
        exact this
      exact ⟨if_neg hn, fun n => if_neg hn⟩
    · obtain ⟨q, c, p, r1, r2⟩ := (hpre i _).1 h1
      have hmt := (matL_mem hm _ r1).1
      have hbl := (hg' i (hlive i q c p r1)).2
      cases q with
      | row e' size' es' =>
        cases r2
        cases c with
        | row e2 size2 es2 =>
          obtain ⟨rfl, rfl, rfl⟩ := hmt
          rw [hbl]
          exact hr.top (σ i) _ _ _ (hown i _ _ p r1) k hk
        | box _ _ _ => exact hmt.elim
        | opq _ _ => exact hmt.elim
        | rowA _ _ _ _ => exact hmt.elim
      | box an t cs => cases an <;> cases r2
      | opq an R => cases an <;> cases r2
      | rowA _ _ _ _ => cases r2
  have hop : ∀ y, y ∈ xs → RepS g w M (evS f y) (a.eval y) := fun y hy => by
    have := hx y (by simp only [Op.operands, Call.operands]; simp; exact .inr hy)
    rw [← this]; exact hr.ev y
  obtain ⟨hlen, hargs⟩ := argsG_rep (ev := a.eval) (fun n => rfl) xs args ha hop
  unfold Oper.wp
  rw [run_call hF.1 _ ts a.eval rfl w]
  show Calls P fn (xs.toArray.map a.eval) w _
  refine (hF.2 X' A g' w (xs.toArray.map a.eval) rfl hmem (by simp [hlen]) (fun j s hj => ?_)).mono ?_
  · obtain ⟨v, h1, h2⟩ := hargs j s hj
    refine ⟨v, by simpa using h1, h2.rnIn heM hg' ((List.all_eq_true.1 hc1'.1) s (List.mem_of_getElem? hj))⟩
  rintro e w' ⟨v, g'', rfl, hm2, hres⟩
  let fnd : Nat → Option Nat := fun k => (nw.map (·.1)).find? fun j => Nat.beq (σ j) k
  let G : Gh := ⟨fun k => match fnd k with | some j => g''.bl j | none => g.bl k, fun k n => match fnd k with | some j => g''.sv j n | none => g.sv k n⟩
  have hfnew : ∀ i o, (i, o) ∈ nw → fnd (σ i) = some i := fun i o h => by
    have hmem : i ∈ nw.map (·.1) := List.mem_map.2 ⟨_, h, rfl⟩
    cases hq : fnd (σ i) with
    | none =>
      have := List.find?_eq_none.1 hq i hmem
      simp at this
    | some j =>
      have h1 := List.find?_some hq
      have h2 := List.mem_of_find?_eq_some hq
      obtain ⟨⟨j', o'⟩, h3, h4⟩ := List.mem_map.1 h2
      simp only at h4
      subst h4
      have h5 : σ j' = σ i := Nat.eq_of_beq_eq_true h1
      rw [hinj j' i (ids_mem.2 (.inr ⟨o', h3⟩)) (ids_mem.2 (.inr ⟨o, h⟩)) h5]
  have hfold : ∀ k, (∀ i o, (i, o) ∈ nw → σ i ≠ k) → fnd k = none := fun k h => by
    refine List.find?_eq_none.2 fun j hj => ?_
    obtain ⟨⟨j', o'⟩, h3, h4⟩ := List.mem_map.1 hj
    simp only at h4
    subst h4
    intro hb
    exact h j' o' h3 (Nat.eq_of_beq_eq_true hb)
  have hGnew : ∀ i o, (i, o) ∈ nw → G.bl (σ i) = g''.bl i ∧ ∀ n, G.sv (σ i) n = g''.sv i n := fun i o h => by
    simp only [G, hfnew i o h, and_self, implies_true]
  have hGold : ∀ k, (∀ i o, (i, o) ∈ nw → σ i ≠ k) → G.bl k = g.bl k ∧ ∀ n, G.sv k n = g.sv k n := fun k h => by
    simp only [G, hfold k h, and_self, implies_true]
  have hGL : ∀ i o c p, (i, o, c, p) ∈ L → G.bl (σ i) = g.bl (σ i) ∧ ∀ n, G.sv (σ i) n = g.sv (σ i) n := fun i o c p h => hGold (σ i) fun j o' hj he => by
    have := hinj j i (ids_mem.2 (.inr ⟨o', hj⟩)) (ids_mem.2 (.inl ⟨o, c, p, h⟩)) he
    subst this
    exact lst_new nd h hj
  have hGown : ∀ k o, own k = some (some o) → G.bl k = g.bl k ∧ ∀ n, G.sv k n = g.sv k n := fun k o h => hGold k fun i o' hi he => by
    have := hnone i o' hi
    rw [he, h] at this
    cases this
  have hle : g.le G := by
    refine ⟨fun k b hb => ?_, fun k n v hv => ?_⟩
    · cases hq : fnd k with
      | none => simp only [G, hq]; exact hb
      | some j =>
        exfalso
        obtain ⟨⟨j', o'⟩, h3, h4⟩ := List.mem_map.1 (List.mem_of_find?_eq_some hq)
        simp only at h4
        subst h4
        have h50 := List.find?_some hq
        have h5 : σ j' = k := Nat.eq_of_beq_eq_true h50
        have h6 := (hr.fresh (σ j') (hnone j' o' h3)).1
        rw [h5, hb] at h6
        cases h6
    · cases hq : fnd k with
      | none => simp only [G, hq]; exact hv
      | some j =>
        exfalso
        obtain ⟨⟨j', o'⟩, h3, h4⟩ := List.mem_map.1 (List.mem_of_find?_eq_some hq)
        simp only at h4
        subst h4
        have h50 := List.find?_some hq
        have h5 : σ j' = k := Nat.eq_of_beq_eq_true h50
        have h6 := (hr.fresh (σ j') (hnone j' o' h3)).2 n
        rw [h5, hv] at h6
        cases h6
  have hpost : ∀ i o, ows (anL A (postOf L nw)) i = some (some o) ↔ ∃ p, ((∃ q c, (i, q, c, some p) ∈ L) ∨ (i, p) ∈ nw) ∧ o = anO A i p := fun i o => by
    rw [ows_iff (by rw [anL_keys]; exact ndPost), anL_mem]
    constructor
    · rintro ⟨q, h1, h2⟩; exact ⟨q, post_mem.1 h1, h2⟩
    · rintro ⟨q, h1, h2⟩; exact ⟨q, post_mem.2 h1, h2⟩
  have hstay : ∀ i q c p, (i, q, c, p) ∈ L → stayB q p = true := fun i q c p h => (List.all_eq_true.1 hst) (i, q, c, p) h
  have hnewB : ∀ i o, (i, o) ∈ nw → newB o = true := fun i o h => (List.all_eq_true.1 hnw) (i, o) h
  have howp : ∀ i p, ((∃ q c, (i, q, c, some p) ∈ L) ∨ (i, p) ∈ nw) → ows (postOf L nw) i = some (some p) := fun i p h => (ows_iff ndPost).2 (post_mem.2 h)
  have hb1 : ∀ i, isB (ows (postOf L nw) i) = true → ∀ b, g''.bl i = some b → G.bl (σ i) = some b := fun i hi b hb => by
    cases ho : ows (postOf L nw) i with
    | none => rw [ho] at hi; cases hi
    | some oo =>
      cases oo with
      | none => rw [ho] at hi; cases hi
      | some p =>
        have hp := post_mem.1 ((ows_iff ndPost).1 ho)
        have hob := hm2.ob i (anO A i p) ((hpost i _).2 ⟨p, hp, rfl⟩)
        rcases hp with ⟨q, c, hL⟩ | hN
        · have hs := hstay i q c (some p) hL
          have hmt := (matL_mem hm _ hL).1
          have hc := hr.ob (σ i) c (hown i q c _ hL)
          rw [(hGL i q c _ hL).1]
          cases q with
          | box an t cs =>
            cases an with
            | none => cases p <;> simp [stayB] at hs
            | some z =>
              cases p with
              | box an' t' cs' =>
                cases an' with
                | none => simp [stayB] at hs
                | some z' =>
                  cases c with
                  | box an2 t2 cs2 =>
                    obtain ⟨b', l', r1, r0, _⟩ := hc
                    obtain ⟨b2, l2, s1, s0, _⟩ := hob
                    rw [hb] at s1
                    cases s1
                    have e1 := s0 _ rfl
                    rw [hA i b' r1] at e1
                    rw [r1, e1]
                  | row _ _ _ => exact hmt.elim
                  | opq _ _ => exact hmt.elim
                  | rowA _ _ _ _ => exact hmt.elim
              | row _ _ _ => simp [stayB] at hs
              | opq _ _ => simp [stayB] at hs
              | rowA _ _ _ _ => simp [stayB] at hs
          | row e size es => cases p <;> simp [stayB] at hs
          | opq an R =>
            cases an with
            | none => cases p <;> simp [stayB] at hs
            | some z =>
              cases p with
              | opq an' R' =>
                cases an' with
                | none => simp [stayB] at hs
                | some z' =>
                  cases c with
                  | opq an2 R2 =>
                    obtain ⟨b', l', r1, r0, _⟩ := hc
                    obtain ⟨b2, l2, s1, s0, _⟩ := hob
                    rw [hb] at s1
                    cases s1
                    have e1 := s0 _ rfl
                    rw [hA i b' r1] at e1
                    rw [r1, e1]
                  | row _ _ _ => exact hmt.elim
                  | box _ _ _ => exact hmt.elim
                  | rowA _ _ _ _ => exact hmt.elim
              | row _ _ _ => simp [stayB] at hs
              | box _ _ _ => simp [stayB] at hs
              | rowA _ _ _ _ => simp [stayB] at hs
          | rowA v0 e size es =>
            cases p with
            | rowA _ _ _ _ => rw [ho] at hi; cases hi
            | row _ _ _ => simp [stayB] at hs
            | opq _ _ => simp [stayB] at hs
            | box _ _ _ => simp [stayB] at hs
        · rw [(hGnew i p hN).1]; exact hb
  have hb2 : ∀ i, isR (ows (postOf L nw) i) = true → ∀ n v, g''.sv i n = some v → G.sv (σ i) n = some v := fun i hi n v hv => by
    cases ho : ows (postOf L nw) i with
    | none => rw [ho] at hi; cases hi
    | some oo =>
      cases oo with
      | none => rw [ho] at hi; cases hi
      | some p =>
        rcases post_mem.1 ((ows_iff ndPost).1 ho) with ⟨q, c, hL⟩ | hN
        · have hs := hstay i q c (some p) hL
          cases p with
          | row _ _ _ =>
            cases q with
            | box an t cs => cases an <;> simp [stayB] at hs
            | opq an R => cases an <;> simp [stayB] at hs
            | row _ _ _ => simp [stayB] at hs
            | rowA _ _ _ _ => simp [stayB] at hs
          | box _ _ _ => rw [ho] at hi; cases hi
          | opq _ _ => rw [ho] at hi; cases hi
          | rowA _ _ _ _ => rw [ho] at hi; cases hi
        · rw [(hGnew i p hN).2]; exact hv
  let M2 : Blks := Mof X' g'' (ows (anL A (postOf L nw)))
  have hM20 : Ext M2 M2 w' w' := ⟨Nat.le_refl _, fun _ _ _ => rfl, fun _ _ h => h⟩
  have hGob : ∀ k o, own k = some (some o) → RepO G w M k o := fun k o h => by
    have h1 := hr.ob k o h
    exact h1.keep hMM0 hle fun b _ => rfl
  have hokpost : ∀ i p, ((∃ q c, (i, q, c, some p) ∈ L) ∨ (i, p) ∈ nw) → okP (ows (postOf L nw)) p = true := fun i p h => (List.all_eq_true.1 hc2'.2) (i, p) (post_mem.2 h)
  have hout : ∀ i q c p, (i, q, c, some p) ∈ L → ∀ M', Ext M2 M' w' w' → RepO G w' M' (σ i) (outO σ c p) ∧ obk G (σ i) (outO σ c p) = obk g'' i (anO A i p) := fun i q c p h M' he =>
    RepO.rnStay he hb1 hb2 (howp i p (.inl ⟨q, c, h⟩)) (matL_mem hm _ h).2 (hokpost i p (.inl ⟨q, c, h⟩)) (matL_mem hm _ h).1 (hstay i q c _ h) (fun b hb => hA i b (by rw [← (hGL i q c _ h).1]; exact hb))
      (fun v hv => hV i q c _ h v (by
        rcases hv with ⟨e, size, es, h1, h2⟩ | hv
        · exact .inl ⟨e, size, es, h1, by rw [← (hGL i q c _ h).2]; exact h2⟩
        · exact .inr hv)) (hGob (σ i) c (hown i q c _ h)) (hm2.ob i _ ((hpost i _).2 ⟨p, .inl ⟨q, c, h⟩, rfl⟩))
  have houtN : ∀ i p, (i, p) ∈ nw → ∀ M', Ext M2 M' w' w' → RepO G w' M' (σ i) (rnO σ p) ∧ obk G (σ i) (rnO σ p) = obk g'' i (anO A i p) := fun i p h M' he =>
    RepO.rnNew he hb1 hb2 (howp i p (.inr h)) (hokpost i p (.inr h)) (hnewB i p h) (hm2.ob i _ ((hpost i _).2 ⟨p, .inr h, rfl⟩))
  let own2 : Own := upl own (wrOf σ L nw)
  have hown2 : ∀ k o, own2 k = some (some o) → ((k ∉ (idsOf L nw).map σ) ∧ own k = some (some o)) ∨ (∃ i q c p, (i, q, c, some p) ∈ L ∧ k = σ i ∧ o = outO σ c p) ∨ ∃ i p, (i, p) ∈ nw ∧ k = σ i ∧ o = rnO σ p := fun k o h => by
    rcases upl_cases own (wrOf σ L nw) k with ⟨h1, h2⟩ | ⟨q, h1, h2⟩
    · rw [wr_keys] at h1
      exact .inl ⟨h1, by rw [← h2]; exact h⟩
    · have hq : q = some (some o) := by rw [← h2]; exact h
      subst hq
      rcases wr_mem.1 h1 with ⟨i, q, c, p, r1, r2, r3⟩ | ⟨i, p, r1, r2, r3⟩
      · cases p with
        | none => cases r3
        | some p => cases r3; exact .inr (.inl ⟨i, q, c, p, r1, r2, rfl⟩)
      · cases r3; exact .inr (.inr ⟨i, p, r1, r2, rfl⟩)
  -- the block of an object behind the call
  have hblk : ∀ k o b, own2 k = some (some o) → obk G k o = some b → ((k ∉ (idsOf L nw).map σ) ∧ own k = some (some o) ∧ obk g k o = some b) ∨ ∃ i p, k = σ i ∧ i ∈ idsOf L nw ∧ ows (anL A (postOf L nw)) i = some (some (anO A i p)) ∧ obk g'' i (anO A i p) = some b := fun k o b h hb => by
    rcases hown2 k o h with ⟨h1, h2⟩ | ⟨i, q, c, p, h1, rfl, rfl⟩ | ⟨i, p, h1, rfl, rfl⟩
    · refine .inl ⟨h1, h2, ?_⟩
      have := (hr.ob k o h2).obk_eq hle
      rw [this] at hb
      exact hb
    · rw [(hout i q c p h1 M2 hM20).2] at hb
      exact .inr ⟨i, p, rfl, ids_mem.2 (.inl ⟨q, c, _, h1⟩), (hpost i _).2 ⟨p, .inl ⟨q, c, h1⟩, rfl⟩, hb⟩
    · rw [(houtN i p h1 M2 hM20).2] at hb
      exact .inr ⟨i, p, rfl, ids_mem.2 (.inr ⟨p, h1⟩), (hpost i _).2 ⟨p, .inr h1, rfl⟩, hb⟩
  have hnB : ∀ k o b, k ∉ (idsOf L nw).map σ → own k = some (some o) → obk g k o = some b → ¬ B b := fun k o b h1 h2 h3 ⟨i, q, c, p, r1, r2⟩ => by
    have := hr.sep _ _ _ _ b h2 (hown i q c p r1) h3 r2
    subst this
    exact h1 (List.mem_map.2 ⟨i, ids_mem.2 (.inl ⟨q, c, p, r1⟩), rfl⟩)
  have hm0B : ∀ b, X.M0 b → ¬ B b := fun b h ⟨i, q, c, p, r1, r2⟩ => by
    have h5 := hr.m0 b h
    rcases hr.mine _ _ b (hown i q c p r1) r2 with h6 | h6
    · exact h5.2 h6
    · have := h5.1
      omega
  have hMn : ∀ b, Mof X G own2 b → M2 b := fun b hb => by
    rcases hb with hb | ⟨k, o, h1, h2⟩
    · exact .inl ⟨.inl hb, hm0B b hb⟩
    · rcases hblk k o b h1 h2 with ⟨q1, q2, q3⟩ | ⟨i, p, q1, q2, q3, q4⟩
      · exact .inl ⟨.inr ⟨k, o, q2, q3⟩, hnB k o b q1 q2 q3⟩
      · exact .inr ⟨i, _, q3, q4⟩
  have heO : Ext M2 (Mof X G own2) w' w' := ⟨Nat.le_refl _, fun _ _ _ => rfl, fun b _ h => hMn b h⟩
  have hkp : Kp S0 w w' := hm2.kp
  have he : Ext M (Mof X G own2) w w' := by
    refine ⟨hkp.size, fun b hb hM => hkp.block b hb fun h => hM (hBM b ((hS0 b).1 h)), fun b hb hM => ?_⟩
    rcases hMn b hM with h1 | ⟨i, o, h1, h2⟩
    · exact h1.1
    · rcases hm2.mine i o b h1 h2 with h3 | h3
      · exact hBM b ((hS0 b).1 h3)
      · have h4 : w.heap.size ≤ b := h3
        omega
  have hpostB : ∀ i o b, ows (anL A (postOf L nw)) i = some (some o) → obk g'' i o = some b → B b ∨ w.heap.size ≤ b := fun i o b h1 h2 => by
    rcases hm2.mine i o b h1 h2 with h3 | h3
    · exact .inl ((hS0 b).1 h3)
    · exact .inr h3
  have hrel : Rel X f' own2 G a w' := by
    refine ⟨hr.kp.trans hkp fun q hq => ?_, hr.m0, hr.n, hr.df, fun t => (hr.fr t).keep he hle, fun k o h => ?_, fun k k' o o' b h1 h2 h3 h4 => ?_, fun k o b h1 h2 => ?_, fun k h => ?_, fun k e size es h n hn => ?_⟩
    · obtain ⟨i, q', c, p, r1, r2⟩ := (hS0 q).1 hq
      exact hr.mine _ _ q (hown i q' c p r1) r2
    · rcases hown2 k o h with ⟨h1, h2⟩ | ⟨i, q, c, p, h1, rfl, rfl⟩ | ⟨i, p, h1, rfl, rfl⟩
      · exact (hr.ob k o h2).keep he hle fun b hb => hkp.block b ((hr.ob k o h2).blk_lt hb) fun hs => hnB k o b h1 h2 hb ((hS0 b).1 hs)
      · exact (hout i q c p h1 _ heO).1
      · exact (houtN i p h1 _ heO).1
    · rcases hblk k o b h1 h3 with ⟨q1, q2, q3⟩ | ⟨i, p, q1, q2, q3, q4⟩
      · rcases hblk k' o' b h2 h4 with ⟨r1, r2, r3⟩ | ⟨i', p', r1, r2, r3, r4⟩
        · exact hr.sep k k' o o' b q2 r2 q3 r3
        · exfalso
          rcases hpostB i' _ b r3 r4 with h5 | h5
          · exact hnB k o b q1 q2 q3 h5
          · have := (hr.ob k o q2).blk_lt q3
            omega
      · rcases hblk k' o' b h2 h4 with ⟨r1, r2, r3⟩ | ⟨i', p', r1, r2, r3, r4⟩
        · exfalso
          rcases hpostB i _ b q3 q4 with h5 | h5
          · exact hnB k' o' b r1 r2 r3 h5
          · have := (hr.ob k' o' r2).blk_lt r3
            omega
        · rw [q1, r1, hm2.sep i i' _ _ b q3 r3 q4 r4]
    · rcases hblk k o b h1 h2 with ⟨q1, q2, q3⟩ | ⟨i, p, q1, q2, q3, q4⟩
      · exact hr.mine k o b q2 q3
      · rcases hpostB i _ b q3 q4 with ⟨i', q', c, p', r1, r2⟩ | h5
        · exact hr.mine _ _ b (hown i' q' c p' r1) r2
        · exact .inr (Nat.le_trans hr.kp.size h5)
    · rcases upl_cases own (wrOf σ L nw) k with ⟨h1, h2⟩ | ⟨q, h1, h2⟩
      · rw [wr_keys] at h1
        have h3 : own k = none := by rw [← h2]; exact h
        obtain ⟨e1, e2⟩ := hGold k fun i o hi hk => h1 (List.mem_map.2 ⟨i, ids_mem.2 (.inr ⟨o, hi⟩), hk⟩)
        rw [e1]
        exact ⟨(hr.fresh k h3).1, fun n => by rw [e2]; exact (hr.fresh k h3).2 n⟩
      · have hq : q = none := by rw [← h2]; exact h
        subst hq
        rcases wr_mem.1 h1 with ⟨i, q, c, p, r1, r2, r3⟩ | ⟨i, p, r1, r2, r3⟩ <;> cases r3
    · rcases hown2 k _ h with ⟨h1, h2⟩ | ⟨i, q, c, p, h1, rfl, h3⟩ | ⟨i, p, h1, rfl, h3⟩
      · rw [(hGown k _ h2).2]
        exact hr.top k e size es h2 n hn
      · have hs := hstay i q c _ h1
        have hmt := (matL_mem hm _ h1).1
        have hsp := (matL_mem hm _ h1).2
        cases q with
        | box an t cs =>
          cases an with
          | none => cases p <;> simp [stayB] at hs
          | some z =>
            cases p with
            | box an' t' cs' =>
              cases c with
              | box _ _ _ => cases h3
              | row _ _ _ => exact hmt.elim
              | opq _ _ => exact hmt.elim
              | rowA _ _ _ _ => exact hmt.elim
            | row _ _ _ => simp [stayB] at hs
            | opq _ _ => simp [stayB] at hs
            | rowA _ _ _ _ => simp [stayB] at hs
        | row _ _ _ => cases p <;> simp [stayB] at hs
        | opq an R =>
          cases an with
          | none => cases p <;> simp [stayB] at hs
          | some z =>
            cases p with
            | opq an' R' =>
              cases c with
              | opq _ _ => cases h3
              | row _ _ _ => exact hmt.elim
              | box _ _ _ => exact hmt.elim
              | rowA _ _ _ _ => exact hmt.elim
            | row _ _ _ => simp [stayB] at hs
            | box _ _ _ => simp [stayB] at hs
            | rowA _ _ _ _ => simp [stayB] at hs
        | rowA v0 e0 size0 es0 =>
          cases p with
          | rowA v1 e1 size1 es1 =>
            cases c with
            | row e2 size2 es2 =>
              cases h3
              obtain ⟨rfl, rfl, rfl⟩ := hmt
              have hl : es.length = es0.length := hsp
              rw [(hGL i _ _ _ h1).2]
              exact hr.top (σ i) _ _ _ (hown i _ _ _ h1) n (by omega)
            | rowA _ _ _ _ => cases h3
            | box _ _ _ => exact hmt.elim
            | opq _ _ => exact hmt.elim
          | row _ _ _ => simp [stayB] at hs
          | opq _ _ => simp [stayB] at hs
          | box _ _ _ => simp [stayB] at hs
      · have hnb := hnewB i p h1
        cases p with
        | row e2 size2 es2 =>
          cases h3
          rw [(hGnew i _ h1).2]
          exact hm2.top i _ _ _ ((hpost i _).2 ⟨_, .inr h1, rfl⟩) n hn
        | box _ _ _ => cases h3
        | opq _ _ => cases h3
        | rowA _ _ _ _ => cases hnb
  exact hK G v w' (hrel.put dst (rnS σ res) v hd (hres.rnOut heO hb1 hb2 hc2'.1))
end
end Go.Proofs.Ytmcegaabopcmfaa
