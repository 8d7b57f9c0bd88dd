/- The abstract machine: data that hold addresses within an own object (slots .dr); pointers as data. -/
import Derived.Test.YthgeeoecgneclaaGreatDoorMc
namespace Go.Proofs.YthgeeoecgneclaaGreatDoor
open Go.RowKit
set_option linter.unusedVariables false
abbrev CP (qb : Nat) (x : Int) : List V := [vval (.pointer (some ⟨qb, x.toNat, none⟩))]
/-- how a slot is seen once the block of an own object is known -/
def vw (id b : Nat) : Slot → Slot
  | .ptr i off => cond (Nat.beq i id) (.dat (vval (.pointer (some ⟨b, off, none⟩)))) (.ptr i off)
  | .dr i u => cond (Nat.beq i id) (.dat (u b)) (.dr i u)
  | s => s
theorem vw_in {g : Gh} {w : World} {M : Blks} {id b : Nat} (hb : g.bl id = some b) {s : Slot} {v : Value} (h : RepS g w M s v) : RepS g w M (vw id b s) v := by
  cases s with
  | ptr i off =>
    simp only [vw]
    by_cases hi : i = id
    · subst hi
      have : Nat.beq i i = true := by simp
      rw [this]
      obtain ⟨b', h1, h2⟩ := h
      rw [hb] at h1; cases h1
      exact h2
    · rw [beq_false_of hi]; exact h
  | dr i u =>
    simp only [vw]
    by_cases hi : i = id
    · subst hi
      have : Nat.beq i i = true := by simp
      rw [this]
      obtain ⟨b', h1, h2⟩ := h
      rw [hb] at h1; cases h1
      exact h2
    · rw [beq_false_of hi]; exact h
  | any => exact h
  | dat u => exact h
  | row i n => exact h
  | rptr i n size k c => exact h
  | mp i => exact h
  | rsub i n size k => exact h
  | nptr i => exact h
theorem vw_out {g : Gh} {w : World} {M : Blks} {id b : Nat} (hb : g.bl id = some b) {s : Slot} {v : Value} (h : RepS g w M (vw id b s) v) : RepS g w M s v := by
  cases s with
  | ptr i off =>
    simp only [vw] at h
    by_cases hi : i = id
    · subst hi
      have : Nat.beq i i = true := by simp
      rw [this] at h
      exact ⟨b, hb, h⟩
    · rw [beq_false_of hi] at h; exact h
  | dr i u =>
    simp only [vw] at h
    by_cases hi : i = id
    · subst hi
      have : Nat.beq i i = true := by simp
      rw [this] at h
      exact ⟨b, hb, h⟩
    · rw [beq_false_of hi] at h; exact h
  | any => exact h
  | dat u => exact h
  | row i n => exact h
  | rptr i n size k c => exact h
  | mp i => exact h
  | rsub i n size k => exact h
  | nptr i => exact h
/-- slots seen otherwise; a box's anchor turned -/
theorem Rel.view {X : Ctx} {f1 f2 : Nat → Slot} {own1 own2 : Own} {g : Gh} {a : Act} {w : World} {id : Nat} {an an2 : Option Nat} {t : TypeId} {cs : List Slot} (h : Rel X f1 own1 g a w)
    (h1 : own1 id = some (some (.box an t cs))) (h2 : own2 = upl own1 [(id, some (some (.box an2 t cs)))]) (ha : ∀ q, an2 = some q → ∀ b, g.bl id = some b → q = b)
    (hf : ∀ k v, RepS g w (Mof X g own1) (f1 k) v → RepS g w (Mof X g own1) (f2 k) v) : Rel X f2 own2 g a w := by
  have key : ∀ i o2, own2 i = some (some o2) → ∃ o1, own1 i = some (some o1) ∧ obk g i o1 = obk g i o2 ∧ (o1 = o2 ∨ (i = id ∧ o2 = .box an2 t cs ∧ o1 = .box an t cs)) := fun i o2 ho => by
    rw [h2] at ho
    by_cases hi : i = id
    · subst hi
      rw [upl_self] at ho
      cases ho
      exact ⟨_, h1, rfl, .inr ⟨rfl, rfl, rfl⟩⟩
    · rw [upl_ne hi] at ho
      exact ⟨o2, ho, rfl, .inl rfl⟩
  have key' : ∀ i o1, own1 i = some (some o1) → ∃ o2, own2 i = some (some o2) ∧ obk g i o2 = obk g i o1 := fun i o1 ho => by
    rw [h2]
    by_cases hi : i = id
    · subst hi
      rw [h1] at ho; cases ho
      exact ⟨_, upl_self, rfl⟩
    · exact ⟨o1, by rw [upl_ne hi]; exact ho, rfl⟩
  have hM : Mof X g own2 = Mof X g own1 := by
    funext b
    refine propext ⟨fun hb => ?_, fun hb => ?_⟩
    · rcases hb with hb | ⟨i, o, e1, e2⟩
      · exact .inl hb
      · obtain ⟨o1, e3, e4, _⟩ := key i o e1
        exact .inr ⟨i, o1, e3, e4.trans e2⟩
    · rcases hb with hb | ⟨i, o, e1, e2⟩
      · exact .inl hb
      · obtain ⟨o1, e3, e4⟩ := key' i o e1
        exact .inr ⟨i, o1, e3, e4.trans e2⟩
  refine ⟨h.kp, h.m0, h.n, h.df, fun k => ?_, fun i o ho => ?_, fun i i' o o' b e1 e2 e3 e4 => ?_, fun i o b e1 e2 => ?_, fun i hi => ?_, fun i e size es e1 k hk => ?_⟩
  · rw [hM]; exact hf k _ (h.fr k)
  · rw [hM]
    obtain ⟨o1, e1, _, e3⟩ := key i o ho
    rcases e3 with rfl | ⟨rfl, rfl, rfl⟩
    · exact h.ob i _ e1
    · obtain ⟨b, l, q1, q2, q3⟩ := h.ob i _ e1
      exact ⟨b, l, q1, fun q hq => ha q hq b q1, q3⟩
  · obtain ⟨o1, p1, p2, _⟩ := key i o e1
    obtain ⟨o2, p3, p4, _⟩ := key i' o' e2
    exact h.sep i i' o1 o2 b p1 p3 (p2.trans e3) (p4.trans e4)
  · obtain ⟨o1, p1, p2, _⟩ := key i o e1
    exact h.mine i o1 b p1 (p2.trans e2)
  · refine h.fresh i ?_
    rw [h2] at hi
    by_cases hii : i = id
    · subst hii; rw [upl_self] at hi; cases hi
    · rw [upl_ne hii] at hi; exact hi
  · obtain ⟨o1, p1, _, p3⟩ := key i _ e1
    rcases p3 with rfl | ⟨_, p4, _⟩
    · exact h.top i e size es p1 k hk
    · cases p4
section
variable {P : Program} {f : Nat → Slot} {dst : Option Tmp} {ty : TypeId} {pos : String} {af : Array Edge} {gd : Option (Nat × Bool)}
/-- WHAT HOLDS AT EVERY ADDRESS OF AN OWN BOX HOLDS OF THE BOX -/
theorem stp_dr {o : Oper} (id : Nat) {an : Option Nat} {t : TypeId} {cs : List Slot} {rd wr : List (Nat × Option (Option AObj))} {s : Slot} (h : ∀ b, Stp P o (fun k => vw id b (f k)) ⟨false, rd, wr, vw id b s⟩) (hr : (keys rd).contains id = false) (hw : (keys wr).contains id = false) :
    Stp P o f ⟨false, (id, some (some (.box an t cs))) :: rd, wr, s⟩ := by
  classical
  intro X f' own g a w Q hrl hd hx hrd K hK
  have ho : own id = some (some (.box an t cs)) := hrd (id, _) (by simp)
  obtain ⟨b, l, q1, q2, q3⟩ := hrl.ob id _ ho
  have hidw : id ∉ keys wr := fun hm => by rw [List.contains_iff_mem.2 hm] at hw; cases hw
  let f2 : Nat → Slot := fun k => if Operand.tmp k ∈ o.op.operands.toList then vw id b (f k) else f' k
  have e0 : ∀ k, Operand.tmp k ∈ o.op.operands.toList → f' k = f k := fun k hk => hx (.tmp k) (by simpa using hk)
  have hR : Rel X f2 (upl own [(id, some (some (.box (some b) t cs)))]) g a w := hrl.view ho rfl (fun q hq b' hb' => by cases hq; rw [q1] at hb'; exact Option.some.inj hb') fun k v hv => by
    show RepS g w _ (if Operand.tmp k ∈ o.op.operands.toList then vw id b (f k) else f' k) v
    split
    · rename_i hk
      rw [← e0 k hk]
      exact vw_in q1 hv
    · exact hv
  refine h b X f2 _ g a w Q hR hd (fun x hxm => ?_) (fun q hq => ?_) K fun g' v w' hR' => hK g' v w' ?_
  · cases x with
    | tmp k =>
      show (if Operand.tmp k ∈ o.op.operands.toList then vw id b (f k) else f' k) = vw id b (f k)
      rw [if_pos (by simpa using hxm)]
    | const v => rfl
    | _ => rfl
  · have hne : q.1 ≠ id := fun e => by
      have : (keys rd).contains id = true := List.contains_iff_mem.2 (List.mem_map.2 ⟨q, hq, e⟩)
      rw [this] at hr; cases hr
    rw [upl_ne hne]
    exact hrd q (List.mem_cons_of_mem _ hq)
  · have e1 : upl (upl own [(id, some (some (.box (some b) t cs)))]) wr id = some (some (.box (some b) t cs)) := by rw [upl_out _ _ _ hidw]; exact upl_self
    obtain ⟨b', l', r1, r2, _⟩ := hR'.ob id _ e1
    have hbb : b = b' := r2 b rfl
    subst hbb
    refine Rel.view (an2 := an) hR' e1 ?_ (fun q hq b' hb' => ?_) fun k v hv => ?_
    · funext i
      by_cases hi : i = id
      · subst hi; rw [upl_self, upl_out _ _ _ hidw]; exact ho
      · rw [upl_ne hi]
        by_cases hm : i ∈ keys wr
        · exact upl_in _ _ _ _ hm
        · rw [upl_out _ _ _ hm, upl_out _ _ _ hm, upl_ne hi]
    · rw [r1] at hb'; cases hb'
      exact q2 q hq
    · have hk2 : ∀ v, RepS g' w' (Mof X g' (upl (upl own [(id, some (some (.box (some b) t cs)))]) wr)) (f2 k) v → RepS g' w' (Mof X g' (upl (upl own [(id, some (some (.box (some b) t cs)))]) wr)) (f' k) v := fun v hv => by
        by_cases hk : Operand.tmp k ∈ o.op.operands.toList
        · have : f2 k = vw id b (f k) := if_pos hk
          rw [this] at hv
          rw [e0 k hk]
          exact vw_out r1 hv
        · have : f2 k = f' k := if_neg hk
          rw [this] at hv; exact hv
      cases hdst : o.dst with
      | none =>
        rw [hdst] at hv
        exact hk2 v hv
      | some d =>
        rw [hdst] at hv
        simp only [updS] at hv ⊢
        cases hkd : Nat.beq k d
        · rw [hkd] at hv; exact hk2 v hv
        · rw [hkd] at hv; exact vw_out r1 hv
/-- pointers as data -/
theorem stp_fldQ {t : TypeId} {i o b k : Nat} {ft : TypeId} {p : Operand} (h : tyF P t i = some (o, ft)) (hp : evS f p = .dat (vval (.pointer (some ⟨b, k, none⟩)))) : Stp P ⟨dst, .fieldAddr t p i, ty, pos, af, gd⟩ f ⟨false, [], [], .dat (vval (.pointer (some ⟨b, k + o, none⟩)))⟩ :=
  stp_val fun X own g a w hh => by
    have h2 := hh p (by simp [Op.operands])
    rw [hp] at h2
    have h3 : a.eval p = .pointer (some ⟨b, k, none⟩) := h2
    exact ⟨_, by simp only [execOp, h3, Sem.run_bind, run_fieldAt h w b k, Result.andThen_ok, Sem.run_pure], rfl⟩
theorem stp_nilQ {x : Operand} {b k : Nat} (hx : evS f x = .dat (vval (.pointer (some ⟨b, k, none⟩)))) : Stp P ⟨dst, .nilCheck x, ty, pos, af, gd⟩ f ⟨false, [], [], .dat (vval (.pointer (some ⟨b, k, none⟩)))⟩ :=
  stp_val fun X own g a w h => by
    have h1 := h x (by simp [Op.operands])
    rw [hx] at h1
    have h2 : a.eval x = .pointer (some ⟨b, k, none⟩) := h1
    exact ⟨_, by simp [execOp, h2], rfl⟩
/-- a cell of a box at a place that is a number of the model's -/
theorem stp_storeD {t : TypeId} {b0 : Bool} {p x : Operand} {id off : Nat} {an : Option Nat} {bt : TypeId} {cs cs' : List Slot} {v : V} (ht : tyS P t = some (b0, 1)) (hp : evS f p = .ptr id off) (hx : evS f x = .dat v) (h1 : v.one = true) (hc : off < cs.length ∧ cs.set off (.dat v) = cs') :
    Stp P ⟨dst, .store t p x, ty, pos, af, gd⟩ f ⟨false, [(id, some (some (.box an bt cs)))], [(id, some (some (.box an bt cs')))], .any⟩ := by
  have := stp_store1 (an := an) (bt := bt) (dst := dst) (ty := ty) (pos := pos) (af := af) (gd := gd) ht hp hx h1 (show Nat.blt off cs.length = true by rw [Nat.blt_eq]; exact hc.1)
  rw [hc.2] at this
  exact this
end
end Go.Proofs.YthgeeoecgneclaaGreatDoor
