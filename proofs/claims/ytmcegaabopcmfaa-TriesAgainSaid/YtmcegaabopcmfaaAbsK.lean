/- The abstract machine: calls that hand a plain function on as an argument. -/
import Derived.Test.YtmcegaabopcmfaaAbsH
namespace Go.Proofs.Ytmcegaabopcmfaa
open Go.RowKit
set_option linter.unusedVariables false

def argsW (f : Nat → Slot) : List Operand → List V → Prop
  | [], [] => True
  | x :: xs, u :: us => (argV (evS f x) u ∨ ∃ n, x = .func n ∧ u = vfn n []) ∧ argsW f xs us
  | _, _ => False
theorem argsW_rep {f : Nat → Slot} {g : Gh} {w : World} {M : Blks} {ev : Operand → Value} (hev : ∀ n, ev (.func n) = .func (.func n) #[] #[]) : ∀ (xs : List Operand) (us : List V), argsW f xs us → (∀ x, x ∈ xs → RepS g w M (evS f x) (ev x)) → Ts w M us (xs.map ev) := by
  intro xs
  induction xs with
  | nil =>
    intro us h _
    cases us with
    | nil => exact ⟨rfl, fun j u hj => by simp at hj⟩
    | cons u us => cases h
  | cons x xs ih =>
    intro us h hv
    cases us with
    | nil => cases h
    | cons u us =>
      have h2 := ih us h.2 (fun y hy => hv y (List.mem_cons_of_mem _ hy))
      refine ⟨by simp [h2.1], fun j u' hj => ?_⟩
      cases j with
      | zero =>
        simp at hj; subst hj
        rcases h.1 with h3 | ⟨n, rfl, rfl⟩
        · exact ⟨_, rfl, argV_rep h3 (hv x (by simp))⟩
        · refine ⟨_, rfl, [], ?_, rfl, fun j u hj => by simp at hj⟩
          rw [hev]
      | succ j => exact h2.2 j u' (by simpa using hj)
section
variable {P : Program} {f : Nat → Slot} {dst : Option Tmp} {ty : TypeId} {pos : String} {af : Array Edge} {gd : Option (Nat × Bool)}
theorem stp_callW {fn : Nat} {xs : Array Operand} {ts : Array TypeId} {us : List V} {res : V} (hF : Fn P fn us res) (ha : argsW f xs.toList us) : Stp P ⟨dst, .call { callee := .value (.func fn), args := xs, argTypes := ts }, ty, pos, af, gd⟩ f ⟨false, [], [], .dat res⟩ := by
  intro X f' own g a w Q hr hd hx hrd K hK
  unfold Oper.wp
  rw [run_call hF.1 xs ts a.eval rfl w]
  show Calls P fn (xs.map a.eval) w _
  have hT : Ts w (Mof X g own) us (xs.map a.eval).toList := by
    rw [Array.toList_map]
    exact argsW_rep (fun _ => rfl) xs.toList us ha (fun x hm => by
      have := hx x (by simp only [Op.operands, Call.operands]; simp at hm ⊢; exact .inr hm)
      rw [← this]; exact hr.ev x)
  refine (hF.2 _ w _ hr.mlt hT).mono ?_
  rintro e w' ⟨v, rfl, h1, h2⟩
  exact hK g v w' ((hr.grow h2).put _ (.dat res) v hd h1)
end

/-- a new slice as plain data -/
theorem imp_of_impR {P : Program} {fn : Nat} {t e : TypeId} {size : Nat} {cs args cs' : List V} {es : List (List V)} (h : ImpR P fn t cs args e size es cs') : Imp P fn t cs args (vlst es) cs' := by
  refine ⟨h.1, fun M w b l vs hM hMb hbl hcs hvs => (h.2 M w b l vs hM hMb hbl hcs hvs).mono ?_⟩
  rintro e' w' ⟨v, l', rfl, ⟨xs, q2, q1, q3, q4, q5⟩, h2, h3, h4⟩
  have he : Ext (fun x => M x ∨ x = b ∨ v.ownBlock = some x) (fun x => M x ∨ x = b) w' w' := ⟨Nat.le_refl _, fun _ _ _ => rfl, fun x _ hx => hx.elim .inl (fun h => .inr (.inl h))⟩
  refine ⟨v, l', rfl, ?_, h2, h3, h4.keep he⟩
  rcases q2.2 with ⟨r1, r2⟩ | ⟨b', cap, cur, r1, _, hb, hnc, _, hcs', htk⟩
  · have : es = [] := List.eq_nil_of_length_eq_zero r2
    subst this
    exact ⟨none, 0, r1, Nat.le_refl _, fun h => absurd rfl h⟩
  · have hown : v.ownBlock = some b' := by rw [r1]; rfl
    have hge := q1 b' hown
    refine ⟨_, cap, r1, hnc, fun _ => ⟨b', 0, size, rfl, ?_, cur, e, (0, 0), hb, q4, fun k c el u hk hc => ?_⟩⟩
    · rintro (hM0 | rfl)
      · have := hM b' hM0; omega
      · have := heap_lt hbl; omega
    · obtain ⟨x, s1, s2, s3⟩ := q5 k c el u hk hc
      refine ⟨x, ?_, u.keep he s2, s3⟩
      rw [← htk, List.getElem?_take] at s1
      split at s1
      · rw [Nat.zero_add]; simpa using s1
      · cases s1

section
variable {P : Program} {f : Nat → Slot} {dst : Option Tmp} {ty : TypeId} {pos : String} {af : Array Edge} {gd : Option (Nat × Bool)}
theorem stp_dat {o : Oper} {sk : Bool} {rd : List (Nat × Option (Option AObj))} {wr : List (Nat × Option (Option AObj))} {u u' : V} (h : Stp P o f ⟨sk, rd, wr, .dat u⟩) (e : u = u') : Stp P o f ⟨sk, rd, wr, .dat u'⟩ := e ▸ h
/-- some cells of a box: a struct within a struct -/
theorem stp_storeA {t : TypeId} {n off : Nat} {p x : Operand} {id : Nat} {an : Option Nat} {bt : TypeId} {cs : List Slot} {us : List V} (ht : tyS P t = some (true, n)) (hp : evS f p = .ptr id off) (hx : evS f x = .dat (vagg us)) (hn : us.length = n) (hc : Nat.ble (off + n) cs.length = true) :
    Stp P ⟨dst, .store t p x, ty, pos, af, gd⟩ f ⟨false, [(id, some (some (.box an bt cs)))], [(id, some (some (.box an bt (cs.take off ++ (us.map .dat ++ cs.drop (off + n))))))], .any⟩ := by
  have hc := Nat.le_of_ble_eq_true hc
  refine stp_boxwr (by simp; omega) fun X own g a w h b l q1 q2 q3 => ?_
  have h2 := h p (by simp [Op.operands])
  have h3 := h x (by simp [Op.operands])
  rw [hp] at h2
  rw [hx] at h3
  obtain ⟨b', r1, r2⟩ := h2
  rw [q1] at r1
  cases r1
  obtain ⟨l', s1, s2⟩ := h3
  have hone : ∀ v ∈ l', v.oneCell' = true := fun v hv => by
    obtain ⟨j, hj, rfl⟩ := List.getElem_of_mem hv
    have : j < us.length := by have := s2.1; omega
    obtain ⟨x', t1, _, t3⟩ := s2.2 j us[j] (List.getElem?_eq_getElem this)
    rw [List.getElem?_eq_getElem hj] at t1
    cases t1
    exact t3
  obtain ⟨d, i, d1, d2, d3, d4⟩ := tyS_at ht
  have hrun := run_storeAt_mid (P := P) w b off t l'.toArray (fun j hj => by
    have hj' : off + j < l.length := by have := s2.1; simp at hj; omega
    refine ⟨?_, ?_⟩
    · rw [cell_of_row w b _ _ _ _ q2]; simp [hj']
    · simp [World.frozen?, q2]) (by rw [d3]; simp [d4, s2.1, hn]) (by simpa using hone)
  have hl' : l'.length = n := by rw [s2.1]; exact hn
  refine ⟨w.setCells b off l', l.take off ++ l' ++ l.drop (off + l'.length), by simp only [execOp, r2, s1, Sem.run_bind, hrun, Result.andThen_ok, Sem.run_pure], ?_, ?_, by simp; omega, fun j s hs => ?_⟩
  · have key : ∀ (vs : List Value) (w1 : World) (o : Nat), Kp [b] w w1 → Kp [b] w (w1.setCells b o vs) := by
      intro vs
      induction vs with
      | nil => intro w1 o hk; rw [World.setCells]; exact hk
      | cons v vs ih => intro w1 o hk; rw [World.setCells]; exact ih _ _ (hk.set_ (.inl (by simp)) v)
    exact key l' w off (Kp.refl _ _)
  · have key : ∀ (vs : List Value) (w1 : World) (o : Nat) (pre : List Value), pre.length = o → w1.heap[b]? = some (.cells (pre ++ l.drop o).toArray bt (0, 0)) → o + vs.length ≤ l.length → (w1.setCells b o vs).heap[b]? = some (.cells (pre ++ vs ++ l.drop (o + vs.length)).toArray bt (0, 0)) := by
      intro vs
      induction vs with
      | nil => intro w1 o pre hp hb _; rw [World.setCells]; simpa using hb
      | cons v vs ih =>
        intro w1 o pre hp hb hlen
        have hd : l.drop o = l[o]'(by simp at hlen; omega) :: l.drop (o + 1) := List.drop_eq_getElem_cons (by simp at hlen; omega)
        have h1 := Blk.set_ (show Blk w1 b bt _ from hb) o v
        unfold Blk at h1
        have h2 := ih (w1.setCell ⟨b, o, none⟩ v) (o + 1) (pre ++ [v]) (by simp [hp]) (by
          rw [h1, hd]
          congr 2
          simp only [List.setIfInBounds_toArray]
          congr 1
          rw [List.set_append_right _ _ (by omega), hp, Nat.sub_self, List.set_cons_zero]
          simp) (by simp at hlen ⊢; omega)
        rw [World.setCells]
        simpa [Nat.add_comm, Nat.add_left_comm, Nat.add_assoc] using h2
    exact key l' w off (l.take off) (by simp; omega) (by rw [List.take_append_drop]; exact q2) (by omega)
  · rcases Nat.lt_or_ge j off with hj | hj
    · left
      rw [List.getElem?_append_left (by simp; omega), List.getElem?_take, if_pos hj] at hs
      refine ⟨hs, ?_⟩
      rw [List.append_assoc, List.getElem?_append_left (by simp; omega), List.getElem?_take, if_pos hj]
    · have ht : (cs.take off).length = off := by simp; omega
      rw [List.getElem?_append_right (by omega), ht] at hs
      rcases Nat.lt_or_ge (j - off) n with hj2 | hj2
      · right
        rw [List.getElem?_append_left (by simp; omega), List.getElem?_map] at hs
        cases hq : us[j - off]? with
        | none => rw [hq] at hs; cases hs
        | some u =>
          rw [hq] at hs
          cases hs
          obtain ⟨x', t1, t2, t3⟩ := s2.2 (j - off) u hq
          refine ⟨x', ?_, t2, t3⟩
          rw [List.append_assoc, List.getElem?_append_right (by simp; omega), List.getElem?_append_left (by simp; omega)]
          have : (l.take off).length = off := by simp; omega
          rw [this]; exact t1
      · left
        rw [List.getElem?_append_right (by simp; omega), List.getElem?_drop] at hs
        have e1 : off + n + (j - off - (us.map Slot.dat).length) = j := by simp; omega
        rw [e1] at hs
        refine ⟨hs, ?_⟩
        rw [List.getElem?_append_right (by simp; omega), List.getElem?_drop]
        congr 1
        simp; omega
/-- the string of one rune -/
def encL (n : Int) : List UInt8 := (Utf8.encode n).data.toList
theorem stp_convR {s d : TypeId} {x : Operand} {k : IntKind} {n : Int} {ds : TypeDesc} (hs : P.underlying s = some ds) (hds : ds = .int k) (hd : P.underlying d = some .string) (hx : evS f x = .dat (vval (.int k n))) : Stp P ⟨dst, .convert s d x, ty, pos, af, gd⟩ f ⟨false, [], [], .dat (vstr (encL n))⟩ :=
  stp_val fun X own g a w h => by
    have h1 := val_of (h x (by simp [Op.operands])) hx
    subst hds
    refine ⟨.string (Utf8.encode n), by simp [execOp, h1, convert, run_underlying hs, run_underlying hd, Conv.intToString], ?_⟩
    show Value.string (Utf8.encode n) = Value.string ⟨(encL n).toArray⟩
    congr 1
end
end Go.Proofs.Ytmcegaabopcmfaa
