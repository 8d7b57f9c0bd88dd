/- The abstract machine: functions with a pointer to one object that give a new slice, which is then the caller's own. -/
import Derived.Test.YtmcegaabopcmfaaAbsF
namespace Go.Proofs.Ytmcegaabopcmfaa
open Go.RowKit
set_option linter.unusedVariables false

/-- a new row: it is in a block from base on -/
def NewRow (w : World) (M : Blks) (base : Nat) (e : TypeId) (size : Nat) (v : Value) (es : List (List V)) : Prop :=
  ∃ xs, w.ownsRow 0 e size v es.length xs ∧ (∀ g, v.ownBlock = some g → base ≤ g) ∧ 0 < size ∧ (∀ el, el ∈ es → el.length = size) ∧
    ∀ (k c : Nat) (el : List V) (u : V), es[k]? = some el → el[c]? = some u → ∃ x, xs[k * size + c]? = some x ∧ u.p w M x ∧ x.oneCell' = true

def ImpR (P : Program) (fn : Nat) (t : TypeId) (cs : List V) (args : List V) (e : TypeId) (size : Nat) (es : List (List V)) (cs' : List V) : Prop :=
  callOK P fn = true ∧ ∀ (M : Blks) (w : World) (b : Nat) (l : List Value) (vs : List Value), (∀ b', M b' → b' < w.heap.size) → ¬ M b → w.heap[b]? = some (.cells l.toArray t (0, 0)) → Cs w (fun x => M x ∨ x = b) cs l → Ts w (fun x => M x ∨ x = b) args vs →
    Calls P fn (Value.pointer (some ⟨b, 0, none⟩) :: vs).toArray w fun e' w' => ∃ v l', e' = .returned v ∧ NewRow w' (fun x => M x ∨ x = b ∨ v.ownBlock = some x) w.heap.size e size v es ∧ Kp [b] w w' ∧ w'.heap[b]? = some (.cells l'.toArray t (0, 0)) ∧ Cs w' (fun x => M x ∨ x = b ∨ v.ownBlock = some x) cs' l'

section
variable {P : Program} {ops : Array Oper} {os : List Oper} {own : Own} {lg : List (List Nat × List Nat)} {K : (Nat → Slot) → Own → List (List Nat × List Nat) → Prop} {s : Slot} {op : Op}
variable {f : Nat → Slot} {dst : Option Tmp} {ty : TypeId} {pos : String} {af : Array Edge} {gd : Option (Nat × Bool)}
theorem stp_nilR {x : Operand} {id n size k c : Nat} (hx : evS f x = .rptr id n size k c) : Stp P ⟨dst, .nilCheck x, ty, pos, af, gd⟩ f ⟨false, [], [], .rptr id n size k c⟩ :=
  stp_val fun X own g a w h => by
    have h1 := h x (by simp [Op.operands])
    rw [hx] at h1
    obtain ⟨b, cap, h2, h3⟩ := h1
    exact ⟨_, by simp [execOp, h3], b, cap, h2, rfl⟩
theorem pair_all {own : Own} {id id2 : Nat} {q r : Option (Option AObj)} (hq : own id = q) (hr : own id2 = r) : ∀ p, p ∈ [(id, q), (id2, r)] → own p.1 = p.2 := by
  intro p hp
  simp only [List.mem_cons, List.not_mem_nil, or_false] at hp
  rcases hp with rfl | rfl
  · exact hq
  · exact hr
theorem seq_run3 {id id2 : Nat} {q q' r r' : Option (Option AObj)} (hst : Stp P ⟨dst, op, ty, pos, af, none⟩ f ⟨false, [(id, q), (id2, r)], [(id2, r'), (id, q')], s⟩) (hq : own id = q) (hr : own id2 = r)
    (h : seqA P ops os (updS f dst s) (upl own [(id2, r'), (id, q')]) (([id, id2], [id2, id]) :: lg) K) : seqA P ops (⟨dst, op, ty, pos, af, none⟩ :: os) f own lg K :=
  ⟨_, ⟨rfl, fun _ => ⟨hst, pair_all hq hr⟩, fun h => (by cases h), fun k hk => (by simp [keys] at hk ⊢; omega)⟩, h⟩

theorem stp_impR (id2 : Nat) {fn : Nat} {p : Operand} {xs : List Operand} {ts : Array TypeId} {id : Nat} {an : Option Nat} {t e : TypeId} {size : Nat} {cs us cs' : List V} {es : List (List V)} {css : List Slot} (hF : ImpR P fn t cs us e size es cs') (hp : evS f p = .ptr id 0) (ha : argsV f xs us) (hcs : css = cs.map .dat) (hne : Nat.beq id id2 = false) :
    Stp P ⟨dst, .call { callee := .value (.func fn), args := (p :: xs).toArray, argTypes := ts }, ty, pos, af, gd⟩ f ⟨false, [(id, some (some (.box an t css))), (id2, none)], [(id2, some (some (.row e size es))), (id, some (some (.box an t (cs'.map .dat))))], .row id2 es.length⟩ := by
  subst hcs
  intro X f' own g a w Q hr hd hx hrd K hK
  have hne' : id ≠ id2 := by rintro rfl; simp at hne
  have ho : own id = some (some (.box an t (cs.map .dat))) := hrd (id, _) (by simp)
  have ho2 : own id2 = none := hrd (id2, none) (by simp)
  have hop : ∀ y, y ∈ p :: xs → RepS g w (Mof X g own) (evS f y) (a.eval y) := fun y hy => by
    have := hx y (by simp only [Op.operands, Call.operands]; simp at hy ⊢; exact .inr hy)
    rw [← this]; exact hr.ev y
  have h1 := hop p (by simp)
  rw [hp] at h1
  obtain ⟨b, h2, h3⟩ := h1
  obtain ⟨b', l, q1, q0, q2, q3, q4⟩ := hr.ob id _ ho
  rw [h2] at q1
  cases q1
  have hMeq : (fun x => (Mof X g own x ∧ x ≠ b) ∨ x = b) = Mof X g own := by
    funext x
    apply propext
    constructor
    · rintro (h | rfl)
      · exact h.1
      · exact .inr ⟨id, _, ho, h2⟩
    · intro h
      by_cases hxb : x = b
      · exact .inr hxb
      · exact .inl ⟨h, hxb⟩
  unfold Oper.wp
  rw [run_call hF.1 _ ts a.eval rfl w]
  show Calls P fn ((p :: xs).toArray.map a.eval) w _
  have harg : (p :: xs).toArray.map a.eval = (Value.pointer (some ⟨b, 0, none⟩) :: xs.map a.eval).toArray := by simp [h3]
  rw [harg]
  have hcall := hF.2 (fun x => Mof X g own x ∧ x ≠ b) w b l (xs.map a.eval) (fun b' hb' => hr.mlt b' hb'.1) (fun h => h.2 rfl) q2 (by
    rw [hMeq]
    refine ⟨by simpa using q3, fun j u hj => ?_⟩
    obtain ⟨x, r1, r2, r3⟩ := q4 j (.dat u) (by simp [hj])
    exact ⟨x, r1, r2, r3⟩) (by rw [hMeq]; exact argsV_rep xs us ha (fun y hy => hop y (List.mem_cons_of_mem _ hy)))
  refine hcall.mono ?_
  rintro e' w' ⟨v, l', rfl, ⟨xs', n1, n2, n3, n4, n5⟩, r2, r3, r4⟩
  have hMe : (fun x => (Mof X g own x ∧ x ≠ b) ∨ x = b ∨ v.ownBlock = some x) = fun x => Mof X g own x ∨ v.ownBlock = some x := by
    funext x
    have h5 : ((Mof X g own x ∧ x ≠ b) ∨ x = b) = Mof X g own x := congrFun hMeq x
    rw [← or_assoc, h5]
  rw [hMe] at n5 r4
  have hb := (hr.ob id _ ho).blk_lt h2
  let own' : Own := upl own [(id2, some (some (.row e size es))), (id, some (some (.box an t (cs'.map .dat))))]
  have u2 : own' id2 = some (some (.row e size es)) := by
    have : Nat.beq id2 id2 = true := by simp
    simp only [own', upl, this, cond_true]
  have u1 : own' id = some (some (.box an t (cs'.map .dat))) := by
    have : Nat.beq id id = true := by simp
    simp only [own', upl, beq_false_of hne', cond_false, this, cond_true]
  have u3 : ∀ i, i ≠ id → i ≠ id2 → own' i = own i := fun i h5 h6 => by simp only [own', upl, beq_false_of h5, beq_false_of h6, cond_false]
  let g' : Gh := ⟨g.bl, fun i k => if i = id2 ∧ k = es.length then some v else g.sv i k⟩
  have hsv : g'.sv id2 es.length = some v := if_pos ⟨rfl, rfl⟩
  have hle : g.le g' := ⟨fun _ _ h => h, fun i k u hu => by
    show (if i = id2 ∧ k = es.length then some v else g.sv i k) = some u
    rw [if_neg]
    · exact hu
    · rintro ⟨rfl, rfl⟩
      rw [(hr.fresh i ho2).2] at hu
      cases hu⟩
  have ob2 : ∀ x, obk g' id2 (.row e size es) = some x ↔ v.ownBlock = some x := fun x => by simp only [obk, hsv, Option.bind_some]
  have hM' : ∀ x, Mof X g' own' x → Mof X g own x ∨ v.ownBlock = some x := fun x hx => by
    rcases hx with hx | ⟨i, o, h5, h6⟩
    · exact .inl (.inl hx)
    · by_cases hi2 : i = id2
      · subst hi2
        rw [u2] at h5
        cases h5
        exact .inr ((ob2 x).1 h6)
      · by_cases hi : i = id
        · subst hi
          rw [u1] at h5
          cases h5
          exact .inl (.inr ⟨i, _, ho, h6⟩)
        · rw [u3 i hi hi2] at h5
          rw [(hr.ob i o h5).obk_eq hle] at h6
          exact .inl (.inr ⟨i, o, h5, h6⟩)
  have hEx : Ext (fun x => Mof X g own x ∨ v.ownBlock = some x) (Mof X g' own') w' w' := ⟨Nat.le_refl _, fun _ _ _ => rfl, fun x _ hx => hM' x hx⟩
  have hst := hr.step (own' := own') (g' := g') (w' := w') hle (.inr ⟨id, _, b, ho, h2, r2⟩) (fun i o h5 => by
    by_cases hi2 : i = id2
    · subst hi2
      rw [u2] at h5
      cases h5
      refine .inr ⟨⟨v, xs', hsv, n1, n3, n4, fun k c el u hk hc => ?_⟩, fun x hx => .inl (n2 x ((ob2 x).1 hx))⟩
      obtain ⟨y, s1, s2, s3⟩ := n5 k c el u hk hc
      exact ⟨y, s1, u.keep hEx s2, s3⟩
    · by_cases hi : i = id
      · subst hi
        rw [u1] at h5
        cases h5
        refine .inr ⟨⟨b, l', h2, q0, r3, by simpa using r4.1, fun j s hs => ?_⟩, fun x hx => .inr ⟨_, ho, hx⟩⟩
        rw [List.getElem?_map] at hs
        cases hq : cs'[j]? with
        | none => rw [hq] at hs; cases hs
        | some u =>
          rw [hq] at hs
          cases hs
          obtain ⟨y, s1, s2, s3⟩ := r4.2 j u hq
          exact ⟨y, s1, u.keep hEx s2, s3⟩
      · rw [u3 i hi hi2] at h5
        refine .inl ⟨h5, fun x hx => r2.block x ((hr.ob i o h5).blk_lt hx) fun hm => ?_⟩
        have : x = b := by simpa using hm
        subst this
        exact hi (hr.sep i id o _ x h5 ho hx h2))
    (fun i hi => by
      by_cases hi2 : i = id2
      · subst hi2; rw [u2] at hi; cases hi
      · by_cases hid : i = id
        · subst hid; rw [u1] at hi; cases hi
        · rw [u3 i hid hi2] at hi
          exact ⟨(hr.fresh i hi).1, fun n => by
            show (if i = id2 ∧ n = es.length then some v else g.sv i n) = none
            rw [if_neg (fun h => hi2 h.1)]; exact (hr.fresh i hi).2 n⟩)
    (fun i e'' s'' es'' h5 k hk => by
      by_cases hi2 : i = id2
      · subst hi2
        rw [u2] at h5
        cases h5
        show (if i = i ∧ k = es.length then some v else g.sv i k) = none
        rw [if_neg (by omega)]; exact (hr.fresh i ho2).2 k
      · by_cases hid : i = id
        · subst hid; rw [u1] at h5; cases h5
        · rw [u3 i hid hi2] at h5
          show (if i = id2 ∧ k = es.length then some v else g.sv i k) = none
          rw [if_neg (fun h => hi2 h.1)]; exact hr.top i e'' s'' es'' h5 k hk)
    (fun i i' o1 o2 x h5 h6 h7 h8 hs => by
      have key : ∀ i o1, own' i = some (some o1) → obk g' i o1 = some x → i = id2 := by
        intro i o1 h5 h7
        by_cases hi2 : i = id2
        · exact hi2
        · exfalso
          by_cases hid : i = id
          · subst hid
            rw [u1] at h5
            cases h5
            have h9 : g.bl i = some x := h7
            rw [h2] at h9; cases h9; omega
          · rw [u3 i hid hi2] at h5
            rw [(hr.ob i o1 h5).obk_eq hle] at h7
            have := (hr.ob i o1 h5).blk_lt h7
            omega
      rw [key i o1 h5 h7, key i' o2 h6 h8])
  exact hK g' v w' (hst.1.put _ (.row id2 es.length) v hd hsv)
end

theorem impR_of {P : Program} {fn : Nat} {fc : Func} {c : Code} {t e : TypeId} {size : Nat} {cs args cs' : List V} {es : List (List V)} {N rt : Nat} (hok : callOK P fn = true) (hf : P.funcs[fn]? = some fc) (hb : fc.body = some c) (hnt : fc.ntmps = N) (hrs : fc.results.toList = [.tmp rt]) (hn : Nat.blt args.length N = true)
    (h : ∀ (X : Ctx) (b : Nat), X.N = N → AWP P X c (fun e' f own => (match e' with | .ret => True | .normal => True | _ => False) ∧ (∃ id, f rt = .row id es.length ∧ own id = some (some (.row e size es))) ∧ own 0 = some (some (.box (some b) t (cs'.map .dat)))) (fun s => (Slot.ptr 0 0 :: args.map Slot.dat).getD s .any) (ows [(0, .box (some b) t (cs.map .dat))])) :
    ImpR P fn t cs args e size es cs' := by
  refine ⟨hok, fun M w b l vs hM hMb hbl hcs hvs => ?_⟩
  subst hnt
  have hn : args.length < fc.ntmps := by simpa [Nat.blt_eq] using hn
  obtain ⟨g0, hrel⟩ := imp_start hn hM hMb hbl hcs hvs
  refine calls_of_wp hf hb (wp_mono (h ⟨M, w, [b], fc.ntmps⟩ b rfl g0 _ w hrel) ?_)
  rintro e' a' w' ⟨f', own', g', hr, he, ⟨id, hf1, hf2⟩, hown⟩
  obtain ⟨b', l', o1, o0, o2, o3, o4⟩ := hr.ob 0 _ hown
  have hbb : b = b' := o0 b rfl
  subst hbb
  obtain ⟨v, xs, hv, q2, q3, q4, q5⟩ := hr.ob id _ hf2
  have hfr := hr.fr rt
  rw [hf1] at hfr
  have hvd : a'.tmps.getD rt undef = v := by
    have h5 : g'.sv id es.length = some (a'.tmps.getD rt undef) := hfr
    rw [hv] at h5; cases h5; rfl
  have hne : ∀ x, v.ownBlock = some x → w.heap.size ≤ x := fun x hx => by
    have hob : obk g' id (.row e size es) = some x := by simp only [obk, hv, Option.bind_some]; exact hx
    rcases hr.mine id _ x hf2 hob with h5 | h5
    · have : x = b := by simpa using h5
      subst this
      have h6 := hr.sep id 0 _ _ x hf2 hown hob o1
      subst h6
      rw [hown] at hf2; cases hf2
    · exact h5
  have hsub : ∀ x, (M x ∨ x = b ∨ v.ownBlock = some x) → Mof ⟨M, w, [b], fc.ntmps⟩ g' own' x := fun x hx => by
    rcases hx with hx | rfl | hx
    · exact .inl hx
    · exact .inr ⟨0, _, hown, o1⟩
    · exact .inr ⟨id, _, hf2, by simp only [obk, hv, Option.bind_some]; exact hx⟩
  have hE' : Ext (Mof ⟨M, w, [b], fc.ntmps⟩ g' own') (fun x => M x ∨ x = b ∨ v.ownBlock = some x) w' w' := ⟨Nat.le_refl _, fun _ _ _ => rfl, fun x _ hx => hsub x hx⟩
  have hrun : (results fc a'.tmps).run P w' = .ok v w' := by
    rw [results_eq]
    have hm : (fc.results.mapM (resF a'.tmps)).run P w' = .ok #[v] w' := by
      rw [Array.mapM_eq_mapM_toList, hrs]
      simp only [List.mapM_cons, List.mapM_nil, resF, hvd]
      simp
    simp [hm]
  have hfin : a'.defers = [] ∧ ∃ v, (results fc a'.tmps).run P w' = .ok v w' ∧ ∃ v_1 l', Ending.returned v = .returned v_1 ∧ NewRow w' (fun x => M x ∨ x = b ∨ v_1.ownBlock = some x) w.heap.size e size v_1 es ∧ Kp [b] w w' ∧ w'.heap[b]? = some (.cells l'.toArray t (0, 0)) ∧ Cs w' (fun x => M x ∨ x = b ∨ v_1.ownBlock = some x) cs' l' := by
    refine ⟨hr.df, v, hrun, v, l', rfl, ⟨xs, q2, hne, q3, q4, fun k c el u hk hc => ?_⟩, hr.kp, o2, by simpa using o3, fun j u hj => ?_⟩
    · obtain ⟨x, s1, s2, s3⟩ := q5 k c el u hk hc
      exact ⟨x, s1, u.keep hE' s2, s3⟩
    · obtain ⟨x, s1, s2, s3⟩ := o4 j (.dat u) (by simp [hj])
      exact ⟨x, s1, u.keep hE' s2, s3⟩
  cases e' with
  | normal => exact hfin
  | ret => exact hfin
  | exit _ => exact he.elim
  | goto _ => exact he.elim
  | panic _ => exact he.elim
  | outgrown => exact he.elim
end Go.Proofs.Ytmcegaabopcmfaa
