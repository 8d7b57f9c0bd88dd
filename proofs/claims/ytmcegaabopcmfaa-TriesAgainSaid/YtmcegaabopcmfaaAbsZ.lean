/- The abstract machine: operations that run or not by a truth value that is not known, without two ways; the call of a function with own objects, as a step. -/
import Derived.Test.YtmcegaabopcmfaaAbsY
namespace Go.Proofs.Ytmcegaabopcmfaa
open Go.RowKit
set_option linter.unusedVariables false

/-- a slot that is filled if c -/
def cnS (c : Bool) (s : Slot) : Slot := match c with
  | true => s
  | false => .dat (vval undef)
theorem cnd {c : Bool} {s : Slot} (h : c = true) : cnS c s = s := by rw [h]; rfl
theorem bTT {b : Bool} (h : b = true) : (b != true) = false := by rw [h]; rfl
theorem bFF {b : Bool} (h : b = false) : (b != false) = false := by rw [h]; rfl
theorem bFT {b : Bool} (h : b = false) : (b != true) = true := by rw [h]; rfl
theorem bTF {b : Bool} (h : b = true) : (b != false) = true := by rw [h]; rfl
theorem un1 {b : Bool} (h : (b != true) = false) : b = true := by simpa using h
theorem un2 {b : Bool} (h : (b != true) = true) : b = false := by simpa using h
theorem un3 {b : Bool} (h : (b != false) = false) : b = false := by simpa using h
theorem un4 {b : Bool} (h : (b != false) = true) : b = true := by simpa using h
theorem andL {a b : Bool} (h : (a && b) = true) : a = true := by cases a <;> simp_all
theorem andR {a b : Bool} (h : (a && b) = true) : b = true := by cases a <;> simp_all
theorem andI {a b : Bool} (h : a = true) (h' : b = true) : (a && b) = true := by rw [h, h']; rfl
theorem notI {a : Bool} (h : a = false) : (!a) = true := by rw [h]; rfl

def leL (a b : List Nat) : Prop := ∀ x, x ∈ a → x ∈ b
def LgLe : List (List Nat × List Nat) → List (List Nat × List Nat) → Prop
  | [], [] => True
  | a :: l, b :: l' => (leL a.1 b.1 ∧ leL a.2 b.2) ∧ LgLe l l'
  | _, _ => False
theorem LgLe.refl : ∀ l, LgLe l l
  | [] => trivial
  | _ :: l => ⟨⟨fun _ h => h, fun _ h => h⟩, LgLe.refl l⟩
theorem LgLe.at_ : ∀ {l l' : List (List Nat × List Nat)}, LgLe l l' → l.length = l'.length ∧ ∀ i, leL (l.getD i ([], [])).1 (l'.getD i ([], [])).1 ∧ leL (l.getD i ([], [])).2 (l'.getD i ([], [])).2
  | [], [], _ => ⟨rfl, fun i => ⟨fun _ h => h, fun _ h => h⟩⟩
  | a :: l, b :: l', h => by
    obtain ⟨h1, h2⟩ := LgLe.at_ h.2
    refine ⟨by simp [h1], fun i => ?_⟩
    cases i with
    | zero => exact h.1
    | succ i => exact h2 i
  | [], _ :: _, h => h.elim
  | _ :: _, [], h => h.elim
theorem LgLe.rev_ {l l' : List (List Nat × List Nat)} (h : LgLe l l') (i : Nat) : leL (l.reverse.getD i ([], [])).1 (l'.reverse.getD i ([], [])).1 ∧ leL (l.reverse.getD i ([], [])).2 (l'.reverse.getD i ([], [])).2 := by
  obtain ⟨h1, h2⟩ := h.at_
  rcases Nat.lt_or_ge i l.length with hl | hl
  · have := h2 (l.length - 1 - i)
    simp only [List.getD_eq_getElem?_getD] at this ⊢
    rw [List.getElem?_reverse hl, List.getElem?_reverse (by omega), ← h1]
    exact this
  · have e1 : l.reverse[i]? = none := List.getElem?_eq_none (by simpa using hl)
    have e2 : l'.reverse[i]? = none := List.getElem?_eq_none (by simp; omega)
    simp only [List.getD_eq_getElem?_getD, e1, e2]
    exact ⟨fun _ h => h, fun _ h => h⟩
def LgAnti (K : (Nat → Slot) → Own → List (List Nat × List Nat) → Prop) : Prop := ∀ f own lg lg', LgLe lg lg' → K f own lg' → K f own lg
theorem anti_p {Q : (Nat → Slot) → Own → Prop} : LgAnti fun f own _ => Q f own := fun _ _ _ _ _ h => h
theorem meets_mono {a a' b b' : List Nat} (ha : leL a a') (hb : leL b b') (h : meets a b = true) : meets a' b' = true := by
  unfold meets at h ⊢
  rw [List.any_eq_true] at h ⊢
  obtain ⟨x, h1, h2⟩ := h
  exact ⟨x, ha x h1, by simpa using hb x (by simpa using h2)⟩
theorem conf_anti {ops : Array Oper} {lg lg' : List (List Nat × List Nat)} (h : LgLe lg lg') (hc : confOK ops lg'.reverse = true) : confOK ops lg.reverse = true := by
  unfold confOK at hc ⊢
  rw [List.all_eq_true] at hc ⊢
  intro j hj
  have h1 := hc j hj
  rw [List.all_eq_true] at h1 ⊢
  intro i hi
  have h2 := h1 i hi
  simp only [Bool.or_eq_true, Bool.not_eq_true'] at h2 ⊢
  rcases h2 with h2 | h2
  · left
    cases hq : clash ops (fun i => (lg.reverse.getD i ([], [])).1) (fun i => (lg.reverse.getD i ([], [])).2) i j with
    | false => rfl
    | true =>
      exfalso
      have : clash ops (fun i => (lg'.reverse.getD i ([], [])).1) (fun i => (lg'.reverse.getD i ([], [])).2) i j = true := by
        unfold clash at hq ⊢
        simp only [Bool.or_eq_true] at hq ⊢
        rcases hq with ((((q | q) | q) | q) | q)
        · exact .inl (.inl (.inl (.inl q)))
        · exact .inl (.inl (.inl (.inr q)))
        · exact .inl (.inl (.inr q))
        · exact .inl (.inr (meets_mono (h.rev_ i).2 (h.rev_ j).1 q))
        · exact .inr (meets_mono (h.rev_ i).1 (h.rev_ j).2 q)
      rw [this] at h2
      cases h2
  · exact .inr h2
theorem anti_d {ops : Array Oper} {Q : (Nat → Slot) → Own → Prop} : LgAnti fun f own lg => confOK ops lg.reverse = true ∧ Q f own := fun _ _ _ _ h hk => ⟨conf_anti h hk.1, hk.2⟩
theorem seqA_anti {P : Program} {ops : Array Oper} {K : (Nat → Slot) → Own → List (List Nat × List Nat) → Prop} (hK : LgAnti K) : ∀ (os : List Oper) (f : Nat → Slot) (own : Own) (lg lg' : List (List Nat × List Nat)), LgLe lg lg' → seqA P ops os f own lg' K → seqA P ops os f own lg K
  | [], f, own, lg, lg', h, hs => hK f own lg lg' h hs
  | o :: os, f, own, lg, lg', h, hs => by
    obtain ⟨T, h1, h2⟩ := hs
    exact ⟨T, h1, seqA_anti hK os _ _ _ ((keys T.rd, keys T.wr) :: lg') ⟨⟨fun _ h => h, fun _ h => h⟩, h⟩ h2⟩

section
variable {P : Program} {ops : Array Oper} {os : List Oper} {f : Nat → Slot} {own : Own} {lg : List (List Nat × List Nat)} {K : (Nat → Slot) → Own → List (List Nat × List Nat) → Prop}
variable {dst : Option Tmp} {op : Op} {ty : TypeId} {pos : String} {af : Array Edge} {s : Slot}
theorem updS_same {f : Nat → Slot} {d : Option Nat} {s s' : Slot} (h : s = s') : updS f d s = updS f d s' := by rw [h]
theorem seq_cc {j d : Nat} {want c : Bool} {v : Value} (h1 : (ops[j]?).bind (·.dst) = some d) (h2 : f d = .dat (vval v)) (h3 : gskip v want = !c) (hst : c = true → Stp P ⟨dst, op, ty, pos, af, some (j, want)⟩ f ⟨false, [], [], s⟩) (h : seqA P ops os (updS f dst (cnS c s)) own (([], []) :: lg) K) :
    seqA P ops (⟨dst, op, ty, pos, af, some (j, want)⟩ :: os) f own lg K := by
  cases c with
  | true => exact ⟨⟨false, [], [], s⟩, ⟨⟨d, v, h1, h2, h3.symm⟩, fun _ => ⟨hst rfl, fun q hq => (by cases hq)⟩, fun h => (by cases h), fun k hk => (by cases hk)⟩, h⟩
  | false => exact ⟨⟨true, [], [], .dat (vval undef)⟩, ⟨⟨d, v, h1, h2, h3.symm⟩, fun h => (by cases h), fun _ => ⟨rfl, rfl, rfl⟩, fun k hk => (by cases hk)⟩, h⟩
theorem seq_cr (hA : LgAnti K) {j d : Nat} {want c : Bool} {v : Value} {id : Nat} {q : Option (Option AObj)} (h1 : (ops[j]?).bind (·.dst) = some d) (h2 : f d = .dat (vval v)) (h3 : gskip v want = !c) (hst : c = true → Stp P ⟨dst, op, ty, pos, af, some (j, want)⟩ f ⟨false, [(id, q)], [], s⟩) (hq : own id = q) (h : seqA P ops os (updS f dst (cnS c s)) own (([id], []) :: lg) K) :
    seqA P ops (⟨dst, op, ty, pos, af, some (j, want)⟩ :: os) f own lg K := by
  cases c with
  | true => exact ⟨⟨false, [(id, q)], [], s⟩, ⟨⟨d, v, h1, h2, h3.symm⟩, fun _ => ⟨hst rfl, fun q' hq' => (by simp only [List.mem_singleton] at hq'; subst hq'; exact hq)⟩, fun h => (by cases h), fun k hk => (by cases hk)⟩, h⟩
  | false => exact ⟨⟨true, [], [], .dat (vval undef)⟩, ⟨⟨d, v, h1, h2, h3.symm⟩, fun h => (by cases h), fun _ => ⟨rfl, rfl, rfl⟩, fun k hk => (by cases hk)⟩, seqA_anti hA os _ _ _ (([id], []) :: lg) ⟨⟨fun x hx => (nomatch hx), fun x hx => (nomatch hx)⟩, LgLe.refl lg⟩ h⟩
section
variable {j d : Nat} {b : Bool}
theorem gsT : gskip (.bool b) true = !b := by cases b <;> rfl
theorem gsF : gskip (.bool b) false = !(!b) := by cases b <;> rfl
theorem cn_val {c b : Bool} : cnS c (.dat (vbool b)) = .dat (vval (cond c (.bool b) undef)) := by cases c <;> rfl
theorem gcT {c b : Bool} : gskip (cond c (.bool b) undef) true = !(c && b) := by cases c <;> cases b <;> rfl
theorem gcF {c b : Bool} : gskip (cond c (.bool b) undef) false = !(c && !b) := by cases c <;> cases b <;> rfl
theorem seq_aT (h1 : (ops[j]?).bind (·.dst) = some d) (h2 : f d = .dat (vbool b)) (hst : b = true → Stp P ⟨dst, op, ty, pos, af, some (j, true)⟩ f ⟨false, [], [], s⟩) (h : seqA P ops os (updS f dst (cnS b s)) own (([], []) :: lg) K) :
    seqA P ops (⟨dst, op, ty, pos, af, some (j, true)⟩ :: os) f own lg K := seq_cc h1 h2 gsT hst h
theorem seq_aF (h1 : (ops[j]?).bind (·.dst) = some d) (h2 : f d = .dat (vbool b)) (hst : (!b) = true → Stp P ⟨dst, op, ty, pos, af, some (j, false)⟩ f ⟨false, [], [], s⟩) (h : seqA P ops os (updS f dst (cnS (!b) s)) own (([], []) :: lg) K) :
    seqA P ops (⟨dst, op, ty, pos, af, some (j, false)⟩ :: os) f own lg K := seq_cc h1 h2 gsF hst h
theorem seq_bT {c : Bool} (h1 : (ops[j]?).bind (·.dst) = some d) (h2 : f d = cnS c (.dat (vbool b))) (hst : (c && b) = true → Stp P ⟨dst, op, ty, pos, af, some (j, true)⟩ f ⟨false, [], [], s⟩) (h : seqA P ops os (updS f dst (cnS (c && b) s)) own (([], []) :: lg) K) :
    seqA P ops (⟨dst, op, ty, pos, af, some (j, true)⟩ :: os) f own lg K := seq_cc h1 (h2.trans cn_val) gcT hst h
theorem seq_bF {c : Bool} (h1 : (ops[j]?).bind (·.dst) = some d) (h2 : f d = cnS c (.dat (vbool b))) (hst : (c && !b) = true → Stp P ⟨dst, op, ty, pos, af, some (j, false)⟩ f ⟨false, [], [], s⟩) (h : seqA P ops os (updS f dst (cnS (c && !b) s)) own (([], []) :: lg) K) :
    seqA P ops (⟨dst, op, ty, pos, af, some (j, false)⟩ :: os) f own lg K := seq_cc h1 (h2.trans cn_val) gcF hst h
variable {id : Nat} {q : Option (Option AObj)}
theorem seq_arT (h1 : (ops[j]?).bind (·.dst) = some d) (h2 : f d = .dat (vbool b)) (hst : b = true → Stp P ⟨dst, op, ty, pos, af, some (j, true)⟩ f ⟨false, [(id, q)], [], s⟩) (hq : own id = q) (hA : LgAnti K) (h : seqA P ops os (updS f dst (cnS b s)) own (([id], []) :: lg) K) :
    seqA P ops (⟨dst, op, ty, pos, af, some (j, true)⟩ :: os) f own lg K := seq_cr hA h1 h2 gsT hst hq h
theorem seq_arF (h1 : (ops[j]?).bind (·.dst) = some d) (h2 : f d = .dat (vbool b)) (hst : (!b) = true → Stp P ⟨dst, op, ty, pos, af, some (j, false)⟩ f ⟨false, [(id, q)], [], s⟩) (hq : own id = q) (hA : LgAnti K) (h : seqA P ops os (updS f dst (cnS (!b) s)) own (([id], []) :: lg) K) :
    seqA P ops (⟨dst, op, ty, pos, af, some (j, false)⟩ :: os) f own lg K := seq_cr hA h1 h2 gsF hst hq h
theorem seq_brT {c : Bool} (h1 : (ops[j]?).bind (·.dst) = some d) (h2 : f d = cnS c (.dat (vbool b))) (hst : (c && b) = true → Stp P ⟨dst, op, ty, pos, af, some (j, true)⟩ f ⟨false, [(id, q)], [], s⟩) (hq : own id = q) (hA : LgAnti K) (h : seqA P ops os (updS f dst (cnS (c && b) s)) own (([id], []) :: lg) K) :
    seqA P ops (⟨dst, op, ty, pos, af, some (j, true)⟩ :: os) f own lg K := seq_cr hA h1 (h2.trans cn_val) gcT hst hq h
theorem seq_brF {c : Bool} (h1 : (ops[j]?).bind (·.dst) = some d) (h2 : f d = cnS c (.dat (vbool b))) (hst : (c && !b) = true → Stp P ⟨dst, op, ty, pos, af, some (j, false)⟩ f ⟨false, [(id, q)], [], s⟩) (hq : own id = q) (hA : LgAnti K) (h : seqA P ops os (updS f dst (cnS (c && !b) s)) own (([id], []) :: lg) K) :
    seqA P ops (⟨dst, op, ty, pos, af, some (j, false)⟩ :: os) f own lg K := seq_cr hA h1 (h2.trans cn_val) gcF hst hq h
end
/-- more objects at once -/
def allRd (own : Own) : List (Nat × Option (Option AObj)) → Prop
  | [] => True
  | (i, q) :: l => own i = q ∧ allRd own l
theorem allRd_mem : ∀ {l : List (Nat × Option (Option AObj))}, allRd own l → ∀ q, q ∈ l → own q.1 = q.2
  | [], _, q, h => by cases h
  | _ :: l, h, q, hq => by
    rcases List.mem_cons.1 hq with rfl | hq
    · exact h.1
    · exact allRd_mem h.2 q hq
def callB (σ : Nat → Nat) (args : List Slot) (res : Slot) (L : List Ent) (nw : List (Nat × AObj)) : Bool :=
  ndB (idsOf L nw) && ndB ((idsOf L nw).map σ) && L.all (fun e => stayB e.2.1 e.2.2.2) && nw.all (fun p => newB p.2) && (args.all (okS (ows (preOf L))) && (preOf L).all fun p => okO (ows (preOf L)) p.2) && (okT (ows (postOf L nw)) res && (postOf L nw).all fun p => okP (ows (postOf L nw)) p.2)
theorem rd_keys (σ : Nat → Nat) (L : List Ent) (nw : List (Nat × AObj)) : keys (rdOf σ L nw) = (idsOf L nw).map σ := by
  unfold keys rdOf idsOf
  simp only [List.map_append, List.map_map]
  rfl
theorem stp_callB {gd : Option (Nat × Bool)} {fn : Nat} {xs : List Operand} {ts : Array TypeId} {args : List Slot} {res : Slot} {σ : Nat → Nat} {L : List Ent} {nw : List (Nat × AObj)} (hF : FnG P fn args (preOf L) res (postOf L nw)) (ha : argsG f σ xs args) (hm : matL σ L) (hb : callB σ args res L nw = true) :
    Stp P ⟨dst, .call { callee := .value (.func fn), args := xs.toArray, argTypes := ts }, ty, pos, af, gd⟩ f ⟨false, rdOf σ L nw, wrOf σ L nw, rnS σ res⟩ := by
  unfold callB at hb
  simp only [Bool.and_eq_true_iff] at hb
  obtain ⟨⟨⟨⟨⟨h1, h2⟩, h3⟩, h4⟩, h5⟩, h6⟩ := hb
  exact stp_callG σ L nw hF ha hm h1 h2 h3 h4 (by simp only [Bool.and_eq_true_iff]; exact h5) (by simp only [Bool.and_eq_true_iff]; exact h6)
theorem seq_callG {fn : Nat} {xs : List Operand} {ts : Array TypeId} {args : List Slot} {res : Slot} (σ : Nat → Nat) (L : List Ent) (nw : List (Nat × AObj)) (hF : FnG P fn args (preOf L) res (postOf L nw)) (hrd : allRd own (rdOf σ L nw)) (ha : argsG f σ xs args) (hm : matL σ L) (hb : callB σ args res L nw = true)
    (h : seqA P ops os (updS f dst (rnS σ res)) (upl own (wrOf σ L nw)) (((idsOf L nw).map σ, (idsOf L nw).map σ) :: lg) K) :
    seqA P ops (⟨dst, .call { callee := .value (.func fn), args := xs.toArray, argTypes := ts }, ty, pos, af, none⟩ :: os) f own lg K :=
  ⟨⟨false, rdOf σ L nw, wrOf σ L nw, rnS σ res⟩, ⟨rfl, fun _ => ⟨stp_callB hF ha hm hb, allRd_mem hrd⟩, fun h => (by cases h), fun k hk => by rw [rd_keys]; rw [wr_keys] at hk; exact hk⟩, by
    have e1 : (keys (rdOf σ L nw), keys (wrOf σ L nw)) = ((idsOf L nw).map σ, (idsOf L nw).map σ) := by rw [rd_keys, wr_keys]
    show seqA P ops os _ _ ((keys (rdOf σ L nw), keys (wrOf σ L nw)) :: lg) K
    rw [e1]; exact h⟩
theorem seq_callgG {j d : Nat} {want b : Bool} {fn : Nat} {xs : List Operand} {ts : Array TypeId} {args : List Slot} {res : Slot} (σ : Nat → Nat) (L : List Ent) (nw : List (Nat × AObj)) (h1 : (ops[j]?).bind (·.dst) = some d) (h2 : f d = .dat (vbool b)) (h3 : (b != want) = false) (hF : FnG P fn args (preOf L) res (postOf L nw)) (hrd : allRd own (rdOf σ L nw)) (ha : argsG f σ xs args) (hm : matL σ L) (hb : callB σ args res L nw = true)
    (h : seqA P ops os (updS f dst (rnS σ res)) (upl own (wrOf σ L nw)) (((idsOf L nw).map σ, (idsOf L nw).map σ) :: lg) K) :
    seqA P ops (⟨dst, .call { callee := .value (.func fn), args := xs.toArray, argTypes := ts }, ty, pos, af, some (j, want)⟩ :: os) f own lg K :=
  ⟨⟨false, rdOf σ L nw, wrOf σ L nw, rnS σ res⟩, ⟨⟨d, .bool b, h1, h2, h3.symm⟩, fun _ => ⟨stp_callB hF ha hm hb, allRd_mem hrd⟩, fun h => (by cases h), fun k hk => by rw [rd_keys]; rw [wr_keys] at hk; exact hk⟩, by
    have e1 : (keys (rdOf σ L nw), keys (wrOf σ L nw)) = ((idsOf L nw).map σ, (idsOf L nw).map σ) := by rw [rd_keys, wr_keys]
    show seqA P ops os _ _ ((keys (rdOf σ L nw), keys (wrOf σ L nw)) :: lg) K
    rw [e1]; exact h⟩
end
section
variable {P : Program} {f : Nat → Slot} {dst : Option Tmp} {ty : TypeId} {pos : String} {af : Array Edge} {gd : Option (Nat × Bool)}
theorem stp_remK {t t' : TypeId} {x y : Operand} {k : IntKind} {m n : Int} (hx : evS f x = .dat (vval (.int k m))) (hy : evS f y = .dat (vval (.int k n))) (h1 : n ≠ 0) :
    Stp P ⟨dst, .binOp .rem t x y t', ty, pos, af, gd⟩ f ⟨false, [], [], .dat (vval (.int k (m.tmod n)))⟩ :=
  stp_bin hx hy fun w => by simp [eqGuard, binOp, Op.intDiv, h1]
theorem stp_pick_and {c x y : Operand} {b p : Bool} (hc : evS f c = .dat (vbool b)) (hx : b = true → evS f x = .dat (vbool p)) (hy : evS f y = .dat (vbool false)) : Stp P ⟨dst, .pick c x y, ty, pos, af, gd⟩ f ⟨false, [], [], .dat (vbool (b && p))⟩ := by
  cases b with
  | true => exact stp_pick_t hc rfl (hx rfl)
  | false => exact stp_pick_f hc rfl hy
theorem stp_pick_or {c x y : Operand} {b q : Bool} (hc : evS f c = .dat (vbool b)) (hx : evS f x = .dat (vbool true)) (hy : b = false → evS f y = .dat (vbool q)) : Stp P ⟨dst, .pick c x y, ty, pos, af, gd⟩ f ⟨false, [], [], .dat (vbool (b || q))⟩ := by
  cases b with
  | true => exact stp_pick_t hc rfl hx
  | false => exact stp_pick_f hc rfl (hy rfl)
end
end Go.Proofs.Ytmcegaabopcmfaa
