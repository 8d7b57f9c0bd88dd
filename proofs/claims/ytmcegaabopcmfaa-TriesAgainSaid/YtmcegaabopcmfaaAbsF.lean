/- The abstract machine: function values that hold data; a box that is given up. -/
import Derived.Test.YtmcegaabopcmfaaAbsJ
namespace Go.Proofs.Ytmcegaabopcmfaa
open Go.RowKit
set_option linter.unusedVariables false

/-- a function value that has captured data -/
def vfn (fn : Nat) (us : List V) : V :=
  ⟨fun w M v => ∃ l : List Value, v = .func (.func fn) #[] l.toArray ∧ Ts w M us l, true, fun e ⟨l, h1, h2⟩ => ⟨l, h1, h2.keep e⟩, fun _ _ _ v ⟨l, h1, _⟩ => by rw [h1]; rfl⟩

def datS (f : Nat → Slot) : List Operand → List V → Prop
  | [], [] => True
  | x :: xs, u :: us => evS f x = .dat u ∧ datS f xs us
  | _, _ => False
theorem datS_args {f : Nat → Slot} : ∀ (xs : List Operand) (us : List V), datS f xs us → argsV f xs us := by
  intro xs
  induction xs with
  | nil => intro us h; cases us with
    | nil => trivial
    | cons _ _ => cases h
  | cons x xs ih => intro us h; cases us with
    | nil => cases h
    | cons u us => exact ⟨.inl h.1, ih us h.2⟩

section
variable {P : Program} {f : Nat → Slot} {dst : Option Tmp} {ty : TypeId} {pos : String} {af : Array Edge} {gd : Option (Nat × Bool)}
theorem stp_mkfn {fn : Nat} {xs : Array Operand} {us : List V} (h : datS f xs.toList us) : Stp P ⟨dst, .makeFunc (.func fn) #[] xs, ty, pos, af, gd⟩ f ⟨false, [], [], .dat (vfn fn us)⟩ :=
  stp_val fun X own g a w hh => by
    refine ⟨.func (.func fn) #[] (xs.map a.eval), ?_, xs.toList.map a.eval, by rw [← Array.toList_map], argsV_rep xs.toList us (datS_args _ _ h) (fun x hx => hh x (by simp only [Op.operands]; simpa using hx))⟩
    simp [execOp, Instr.makeFunc]
/-- a plain function as a value -/
theorem stp_fnval {fn : Nat} {c : Bool} (hc : c = true) : Stp P ⟨dst, .move (.func fn), ty, pos, af, gd⟩ f ⟨false, [], [], .dat (vfn fn [])⟩ :=
  stp_val fun X own g a w hh => ⟨.func (.func fn) #[] #[], rfl, [], rfl, rfl, fun j u hj => by simp at hj⟩

theorem run_callv {fn : Nat} (hc : callOK P fn = true) (fx : Operand) (xs : Array Operand) (ts : Array TypeId) (cap : Array Value) (ev : Operand → Value) (hev : ev fx = .func (.func fn) #[] cap) (w : World) :
    (execOp ev ⟨dst, .call { callee := .value fx, args := xs, argTypes := ts }, ty, pos, af, gd⟩).run P w = .ok (.enter fn (xs.map ev ++ cap)) w := by
  unfold callOK at hc
  cases hf : P.funcs[fn]? with
  | none => rw [hf] at hc; cases hc
  | some fc =>
    rw [hf] at hc
    simp only [Bool.and_eq_true, Bool.not_eq_true'] at hc
    have h1 : ¬ fc.name = "runtime.NumGoroutine" := by simpa using hc.1
    have h2 : ¬ fc.body = none := by
      intro hb; rw [hb] at hc; cases hc.2
    simp [execOp, resolve, hev, Deferred.ofValue, invoke, callFunc, hf, h1, h2]

theorem Ts_append {w : World} {M : Blks} {us us' : List V} {l l' : List Value} (h : Ts w M us l) (h' : Ts w M us' l') : Ts w M (us ++ us') (l ++ l') := by
  refine ⟨by simp [h.1, h'.1], fun j u hj => ?_⟩
  rcases Nat.lt_or_ge j us.length with hl | hl
  · rw [List.getElem?_append_left hl] at hj
    obtain ⟨x, q1, q2⟩ := h.2 j u hj
    exact ⟨x, by rw [List.getElem?_append_left (by rw [h.1]; exact hl)]; exact q1, q2⟩
  · rw [List.getElem?_append_right hl] at hj
    obtain ⟨x, q1, q2⟩ := h'.2 _ u hj
    exact ⟨x, by rw [List.getElem?_append_right (by rw [h.1]; exact hl), h.1]; exact q1, q2⟩

/-- a call of a function value -/
theorem stp_callv {t : Tmp} {fn : Nat} {xs : Array Operand} {ts : Array TypeId} {us cs : List V} {res : V} (hF : Fn P fn (us ++ cs) res) (hf : evS f (.tmp t) = .dat (vfn fn cs)) (ha : argsV f xs.toList us) : Stp P ⟨dst, .call { callee := .value (.tmp t), args := xs, argTypes := ts }, ty, pos, af, gd⟩ f ⟨false, [], [], .dat res⟩ := by
  intro X f' own g a w Q hr hd hx hrd K hK
  have hop : ∀ y, y ∈ Operand.tmp t :: xs.toList → RepS g w (Mof X g own) (evS f y) (a.eval y) := fun y hy => by
    have := hx y (by simp only [Op.operands, Call.operands]; simp at hy ⊢; exact hy)
    rw [← this]; exact hr.ev y
  have h1 := hop (.tmp t) (by simp)
  rw [hf] at h1
  obtain ⟨l, h2, h3⟩ := h1
  unfold Oper.wp
  rw [run_callv hF.1 (.tmp t) xs ts l.toArray a.eval h2 w]
  show Calls P fn (xs.map a.eval ++ l.toArray) w _
  have hT : Ts w (Mof X g own) (us ++ cs) (xs.map a.eval ++ l.toArray).toList := by
    rw [Array.toList_append, Array.toList_map]
    exact Ts_append (argsV_rep xs.toList us ha (fun x hm => hop x (List.mem_cons_of_mem _ hm))) h3
  refine (hF.2 _ w _ hr.mlt hT).mono ?_
  rintro e w' ⟨v, rfl, h1, h2⟩
  exact hK g v w' ((hr.grow h2).put _ (.dat res) v hd h1)
end

/-- pointers into a box that is given up -/
def frzS (id : Nat) (us : List V) : Slot → Slot
  | .ptr i off => cond (Nat.beq i id) (.dat (vcell [us] 0 off)) (.ptr i off)
  | s => s
theorem awp_frzB {P : Program} {X : Ctx} {Q : Exit → (Nat → Slot) → Own → Prop} {f : Nat → Slot} {own : Own} {c : Code} (id : Nat) (us : List V) {an : Option Nat} {t : TypeId} {cs : List Slot} (ho : own id = some (some (.box an t cs))) (hcs : cs = us.map .dat)
    (h : AWP P X c Q (fun s => frzS id us (f s)) (upl own [(id, some none)])) : AWP P X c Q f own := by
  intro g a w hr
  subst hcs
  have hlive : ∀ i o, upl own [(id, some none)] i = some (some o) → i ≠ id ∧ own i = some (some o) := fun i o h1 => by
    by_cases hi : i = id
    · subst hi; rw [upl_self] at h1; cases h1
    · rw [upl_ne hi] at h1; exact ⟨hi, h1⟩
  have hM : ∀ b, Mof X g (upl own [(id, some none)]) b → Mof X g own b := fun b hb => by
    rcases hb with hb | ⟨i, o, h1, h2⟩
    · exact .inl hb
    · exact .inr ⟨i, o, (hlive i o h1).2, h2⟩
  have he : Ext (Mof X g own) (Mof X g (upl own [(id, some none)])) w w := ⟨Nat.le_refl _, fun _ _ _ => rfl, fun b _ hb => hM b hb⟩
  refine h g a w ⟨hr.kp, hr.m0, hr.n, hr.df, fun t' => ?_, fun i o h1 => (hr.ob i o (hlive i o h1).2).keep he (Gh.le_refl g) (fun _ _ => rfl), fun i i' o o' b h1 h2 => hr.sep i i' o o' b (hlive i o h1).2 (hlive i' o' h2).2, fun i o b h1 => hr.mine i o b (hlive i o h1).2, fun i h1 => ?_, fun i e' s' es' h1 => hr.top i e' s' es' (hlive i _ h1).2⟩
  · have hfr := hr.fr t'
    cases hs : f t' with
    | ptr i off =>
      by_cases hi : i = id
      · subst hi
        have : Nat.beq i i = true := by simp
        simp only [frzS, this, cond_true]
        rw [hs] at hfr
        obtain ⟨b, q1, q2⟩ := hfr
        obtain ⟨b', l, r1, _, r2, r3, r4⟩ := hr.ob i _ ho
        rw [q1] at r1
        cases r1
        refine ⟨b, 0, us.length, by rw [q2]; simp, ?_, l.toArray, t, (0, 0), r2, by simp, fun k c' el u hk hc => ?_⟩
        · rintro (hM0 | ⟨i', o, h1, h2⟩)
          · have h5 := hr.m0 b hM0
            rcases hr.mine i _ b ho q1 with h6 | h6
            · exact h5.2 h6
            · omega
          · obtain ⟨h3, h4⟩ := hlive i' o h1
            exact h3 (hr.sep i' i o _ b h4 ho h2 q1)
        · cases k with
          | zero =>
            cases hk
            obtain ⟨x, s1, s2, s3⟩ := r4 c' (.dat u) (by simp [hc])
            exact ⟨x, by simpa using s1, u.keep he s2, s3⟩
          | succ k => cases hk
      · simp only [frzS, beq_false_of hi, cond_false]
        rw [hs] at hfr
        exact RepS.keep he (Gh.le_refl g) hfr
    | any => trivial
    | dat u => rw [hs] at hfr; exact RepS.keep he (Gh.le_refl g) hfr
    | row i n => rw [hs] at hfr; exact RepS.keep he (Gh.le_refl g) hfr
    | rptr i n size k c => rw [hs] at hfr; exact RepS.keep he (Gh.le_refl g) hfr
    | mp i => rw [hs] at hfr; exact RepS.keep he (Gh.le_refl g) hfr
  · by_cases hi : i = id
    · subst hi; rw [upl_self] at h1; cases h1
    · rw [upl_ne hi] at h1; exact hr.fresh i h1

/-- a contract of another make, as one of the machine's -/
theorem fn_of_calls {P : Program} {fn : Nat} {args : List V} {res : V} (hok : callOK P fn = true) (h : ∀ (M : Blks) (w : World) (vs : List Value), Ts w M args vs → Calls P fn vs.toArray w fun e w' => ∃ v, e = .returned v ∧ res.p w' M v ∧ Kp [] w w') : Fn P fn args res :=
  ⟨hok, fun M w vs _ hvs => by have := h M w vs.toList hvs; simpa using this⟩
theorem Ts_vals {w : World} {M : Blks} : ∀ {us : List Value} {l : List Value}, Ts w M (us.map vval) l → l = us := by
  intro us
  induction us with
  | nil => intro l h; exact List.eq_nil_of_length_eq_zero h.1
  | cons u us ih =>
    intro l h
    cases l with
    | nil => have := h.1; simp at this
    | cons x l =>
      obtain ⟨y, h1, h2⟩ := h.2 0 (vval u) rfl
      cases h1
      have h3 : x = u := h2
      subst h3
      rw [ih ⟨by have := h.1; simpa using this, fun j u' hj => h.2 (j + 1) u' hj⟩]

/-! ### ways that meet behind a region -/
theorem Rel.weak {X : Ctx} {f f2 : Nat → Slot} {own : Own} {g : Gh} {a : Act} {w : World} (h : Rel X f own g a w) (hf : ∀ t, f2 t = .any ∨ f2 t = f t) : Rel X f2 own g a w :=
  ⟨h.kp, h.m0, h.n, h.df, fun t => by
    rcases hf t with h1 | h1
    · rw [h1]; trivial
    · rw [h1]; exact h.fr t, h.ob, h.sep, h.mine, h.fresh, h.top⟩
def dstL : List Oper → List Nat
  | [] => []
  | o :: os => match o.dst with
    | some d => d :: dstL os
    | none => dstL os
theorem seqA_mono {P : Program} {ops : Array Oper} : ∀ (os : List Oper) (f : Nat → Slot) (own : Own) (lg : List (List Nat × List Nat)) (K K' : (Nat → Slot) → Own → List (List Nat × List Nat) → Prop), (∀ f' own' lg', K f' own' lg' → K' f' own' lg') → seqA P ops os f own lg K → seqA P ops os f own lg K' := by
  intro os
  induction os with
  | nil => intro f own lg K K' hk h; exact hk _ _ _ h
  | cons o os ih => intro f own lg K K' hk h; obtain ⟨T, h1, h2⟩ := h; exact ⟨T, h1, ih _ _ _ K K' hk h2⟩
theorem seqA_keep {P : Program} {ops : Array Oper} : ∀ (os : List Oper) (f : Nat → Slot) (own : Own) (lg : List (List Nat × List Nat)) (K : (Nat → Slot) → Own → List (List Nat × List Nat) → Prop), seqA P ops os f own lg K →
    seqA P ops os f own lg fun f' own' lg' => (∀ t, t ∉ dstL os → f' t = f t) ∧ K f' own' lg' := by
  intro os
  induction os with
  | nil => intro f own lg K h; exact ⟨fun _ _ => rfl, h⟩
  | cons o os ih =>
    intro f own lg K h
    obtain ⟨T, h1, h2⟩ := h
    refine ⟨T, h1, ?_⟩
    have h3 := ih _ _ _ _ h2
    refine seqA_mono os _ _ _ _ _ (fun f' own' lg' ⟨q1, q2⟩ => ⟨fun t ht => ?_, q2⟩) h3
    cases hd : o.dst with
    | none =>
      simp only [dstL, hd] at ht
      rw [q1 t ht, hd]; rfl
    | some d =>
      simp only [dstL, hd, List.mem_cons, not_or] at ht
      rw [q1 t ht.2, hd]
      simp only [updS, beq_false_of ht.1, cond_false]
def jf (f : Nat → Slot) (ch : List (Nat × Slot)) (dead : List Nat) : Nat → Slot := upl (upl f (dead.map fun d => (d, .any))) ch
theorem dead_at {f f' : Nat → Slot} : ∀ (dead : List Nat) (t : Nat), (t ∉ dead → f' t = f t) → upl f (dead.map fun d => (d, Slot.any)) t = .any ∨ upl f (dead.map fun d => (d, Slot.any)) t = f' t := by
  intro dead
  induction dead with
  | nil => intro t h; exact .inr (h (by simp)).symm
  | cons d ds ih =>
    intro t h
    simp only [List.map_cons, upl]
    by_cases ht : t = d
    · subst ht
      have : Nat.beq t t = true := by simp
      simp only [this, cond_true]
      exact .inl trivial
    · simp only [beq_false_of ht, cond_false]
      exact ih t fun hn => h (by simp [ht, hn])
theorem jf_at {f f' : Nat → Slot} {dead : List Nat} (hk : ∀ t, t ∉ dead → f' t = f t) : ∀ (ch : List (Nat × Slot)), subF f' ch → ∀ t, jf f ch dead t = .any ∨ jf f ch dead t = f' t := by
  intro ch
  induction ch with
  | nil => intro _ t; exact dead_at dead t (hk t)
  | cons p ch ih =>
    obtain ⟨k, s⟩ := p
    intro h t
    unfold jf
    simp only [upl]
    by_cases ht : t = k
    · subst ht
      have : Nat.beq t t = true := by simp
      simp only [this, cond_true]
      exact .inr h.1
    · simp only [beq_false_of ht, cond_false]
      exact ih h.2 t
theorem awp_rjP {P : Program} {X : Ctx} {id : Nat} {ops : Array Oper} {y : Code} {Q : Exit → (Nat → Slot) → Own → Prop} {f : Nat → Slot} {own : Own} {N : Nat} (ch : List (Nat × Slot)) (hX : X.N = N) (hN : dstsOK N ops = true)
    (h : seqA P ops ops.toList f own [] fun f' own' _ => own' = own ∧ subF f' ch) (hy : AWP P X y Q (jf f ch (dstL ops.toList)) own) : AWP P X (.seq (.region id ops false) y) Q f own := by
  refine awp_seq (awp_plain hX hN ?_)
  refine seqA_mono _ _ _ _ _ _ ?_ (seqA_keep _ _ _ _ _ h)
  rintro f' own' lg' ⟨h1, rfl, h2⟩ g a w hr
  exact hy g a w (hr.weak (jf_at h1 ch h2))
theorem awp_rjD {P : Program} {X : Ctx} {id : Nat} {ops : Array Oper} {y : Code} {Q : Exit → (Nat → Slot) → Own → Prop} {f : Nat → Slot} {own : Own} {N : Nat} (ch : List (Nat × Slot)) (hm : P.follows .mixedOrders = true) (hX : X.N = N) (hE : edgesOK ops = true) (hN : dstsOK N ops = true)
    (h : seqA P ops ops.toList f own [] fun f' own' lg => confOK ops lg.reverse = true ∧ own' = own ∧ subF f' ch) (hy : AWP P X y Q (jf f ch (dstL ops.toList)) own) : AWP P X (.seq (.region id ops true) y) Q f own := by
  refine awp_seq (awp_draw hm hX hE hN ?_)
  refine seqA_mono _ _ _ _ _ _ ?_ (seqA_keep _ _ _ _ _ h)
  rintro f' own' lg' ⟨h1, h0, rfl, h2⟩
  exact ⟨h0, fun g a w hr => hy g a w (hr.weak (jf_at h1 ch h2))⟩
end Go.Proofs.Ytmcegaabopcmfaa
