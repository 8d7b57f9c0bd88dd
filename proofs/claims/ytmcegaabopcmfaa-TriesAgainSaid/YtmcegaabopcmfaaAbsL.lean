/- The abstract machine: functions with a pointer to an element of a row. -/
import Derived.Test.YtmcegaabopcmfaaAbsK
namespace Go.Proofs.Ytmcegaabopcmfaa
open Go.RowKit
set_option linter.unusedVariables false

section
variable {P : Program} {f : Nat → Slot} {dst : Option Tmp} {ty : TypeId} {pos : String} {af : Array Edge} {gd : Option (Nat × Bool)}
theorem stp_loadB1 {vv : Value} {t e : TypeId} {n m size : Nat} {p : Operand} {id k c : Nat} {es : List (List V)} {el : List V} {u : V} (ht : tyS P t = some (false, n)) (hp : evS f p = .rptr id m size k c) (hm : m = es.length) (he : es[k]? = some el) (hu : el[c]? = some u) :
    Stp P ⟨dst, .load t p, ty, pos, af, gd⟩ f ⟨false, [(id, some (some (.rowA vv e size es)))], [], .dat u⟩ :=
  stp_rd fun X own g a w hh hob => by
    have h2 := hh p (by simp [Op.operands])
    rw [hp] at h2
    obtain ⟨b, cap, h3, h4⟩ := h2
    obtain ⟨xs, q1, q2, q3, q4, q5⟩ := hob
    subst hm
    rw [h3] at q1
    cases q1
    obtain ⟨x, r1, r2, r3⟩ := q5 k c el u he hu
    exact ⟨x, by simp [execOp, h4, run_load1 (b := true) ht w _ x (own_cell q2 r1)], r2⟩
theorem stp_storeB {vv : Value} {t e : TypeId} {b0 : Bool} {m size : Nat} {p x : Operand} {id k c : Nat} {es : List (List V)} {el : List V} {v : V} (ht : tyS P t = some (b0, 1)) (hp : evS f p = .rptr id m size k c) (hx : evS f x = .dat v) (h1 : v.one = true) (hm : m = es.length) (he : es[k]? = some el) (hc' : Nat.blt c el.length = true) :
    Stp P ⟨dst, .store t p x, ty, pos, af, gd⟩ f ⟨false, [(id, some (some (.rowA vv e size es)))], [(id, some (some (.rowA vv e size (es.set k (el.set c v)))))], .any⟩ := by
  have hc : c < el.length := by simpa [Nat.blt_eq] using hc'
  refine stp_upd fun X f' own g a w hr ho hh => ?_
  have h2 := hh p (by simp [Op.operands])
  have h3 := hh x (by simp [Op.operands])
  rw [hp] at h2
  rw [hx] at h3
  obtain ⟨b, cap, p1, p2⟩ := h2
  obtain ⟨xs, q1, q2, q3, q4, q5⟩ := hr.ob id _ ho
  subst hm
  rw [p1] at q1
  cases q1
  have hone := v.hone h1 h3
  have hk := (List.getElem?_eq_some_iff.1 he).1
  have hel := q4 el (List.mem_of_getElem? he)
  have hpos : k * size + c < es.length * size := idx_lt hk (by omega)
  rcases q2.2 with ⟨e1, _⟩ | ⟨b', cap', cur, e1, e2, e3, e4, e5, e6, e7⟩
  · cases e1
  · cases e1
    have hcur : es.length * size ≤ cap * size := Nat.mul_le_mul_right _ e4
    have hst := run_store1 (P := P) ht w b (k * size + c) cur.toList e (a.eval x) (by simpa using e3) (by simp; omega) hone
    refine ⟨g, w.setCell ⟨b, k * size + c, none⟩ (a.eval x), .skip, undef, Gh.le_refl g, fun i hi => ⟨rfl, fun _ => rfl⟩, ?_, .inr ⟨rfl, rfl⟩, .inr ⟨_, b, ho, by simp only [obk]; rfl, (Kp.refl [b] w).set_ (.inl (by simp)) _⟩, fun b' hb => .inr ⟨_, ho, ?_⟩, fun e' s' es' h k' hk' => ?_, fun M' he' => ⟨⟨xs.set (k * size + c) (a.eval x), ?_, ⟨?_, .inr ⟨b, cap, cur.setIfInBounds (k * size + c) (a.eval x), by simp, e2, ?_, by simpa using e4, e5, by simpa using e6, ?_⟩⟩, q3, fun el' hel' => ?_, fun k' c' el' u' hk' hc' => ?_⟩, trivial⟩⟩
    · simp only [execOp, p2, Sem.run_bind, hst, Result.andThen_ok, Sem.run_pure]
    · exact hb
    · cases h
    · rw [List.length_set]; exact p1
    · simp [q2.1]
    · have := Blk.set_ (show Blk w b e cur from e3) (k * size + c) (a.eval x)
      exact this
    · rw [Array.toList_setIfInBounds, List.length_set, List.take_set, e7]
    · rcases List.mem_or_eq_of_mem_set hel' with h | rfl
      · exact q4 el' h
      · simpa using hel
    · rw [List.getElem?_set] at hk'
      by_cases hkk : k = k'
      · subst hkk
        rw [if_pos rfl, if_pos hk] at hk'
        cases hk'
        rw [List.getElem?_set] at hc'
        by_cases hcc : c = c'
        · subst hcc
          rw [if_pos rfl, if_pos hc] at hc'
          cases hc'
          exact ⟨a.eval x, by rw [List.getElem?_set_self (by rw [q2.1]; exact hpos)], v.keep he' h3, hone⟩
        · rw [if_neg hcc] at hc'
          obtain ⟨y, r1, r2, r3⟩ := q5 k c' el u' he hc'
          exact ⟨y, by rw [List.getElem?_set_ne (by omega)]; exact r1, u'.keep he' r2, r3⟩
      · rw [if_neg hkk] at hk'
        obtain ⟨y, r1, r2, r3⟩ := q5 k' c' el' u' hk' hc'
        refine ⟨y, ?_, u'.keep he' r2, r3⟩
        have hc2 := (List.getElem?_eq_some_iff.1 hc').1
        have hel2 := q4 el' (List.mem_of_getElem? hk')
        rw [List.getElem?_set_ne]
        · exact r1
        · intro heq
          have h5 : (k * size + c) / size = (k' * size + c') / size := by rw [heq]
          rw [Nat.mul_comm k, Nat.mul_comm k', Nat.mul_add_div q3, Nat.mul_add_div q3, Nat.div_eq_of_lt (by omega), Nat.div_eq_of_lt (by omega)] at h5
          omega

end

/-- the cells of a row read as its elements -/
def RowC (w : World) (M : Blks) (size : Nat) (es : List (List V)) (xs : List Value) : Prop :=
  ∀ (k c : Nat) (el : List V) (u : V), es[k]? = some el → el[c]? = some u → ∃ x, xs[k * size + c]? = some x ∧ u.p w M x ∧ x.oneCell' = true
/-- a function with a pointer to element k of a row that the caller owns; the row's elements turn from es to es' -/
def ImpE (P : Program) (fn : Nat) (e : TypeId) (size : Nat) (es : List (List V)) (k : Nat) (args : List V) (res : V) (es' : List (List V)) : Prop :=
  callOK P fn = true ∧ es'.length = es.length ∧ (∀ el, el ∈ es' → el.length = size) ∧ ∀ (M : Blks) (w : World) (b cap : Nat) (xs vs : List Value), (∀ b', M b' → b' < w.heap.size) → ¬ M b →
    w.ownsRow 0 e size (.slice (some ⟨b, 0, none⟩) es.length cap) es.length xs → 0 < size → (∀ el, el ∈ es → el.length = size) → RowC w (fun x => M x ∨ x = b) size es xs → Ts w (fun x => M x ∨ x = b) args vs →
    Calls P fn (Value.pointer (some ⟨b, k * size, none⟩) :: vs).toArray w fun e' w' => ∃ v xs', e' = .returned v ∧ res.p w' (fun x => M x ∨ x = b) v ∧ Kp [b] w w' ∧ w'.ownsRow 0 e size (.slice (some ⟨b, 0, none⟩) es.length cap) es.length xs' ∧ RowC w' (fun x => M x ∨ x = b) size es' xs'
theorem impE_start {N e size k : Nat} {es : List (List V)} {args : List V} {M : Blks} {w : World} {b cap : Nat} {xs vs : List Value} (hn : args.length < N) (hM : ∀ b', M b' → b' < w.heap.size) (hMb : ¬ M b) (hown : w.ownsRow 0 e size (.slice (some ⟨b, 0, none⟩) es.length cap) es.length xs) (h0 : 0 < size) (hsz : ∀ el, el ∈ es → el.length = size)
    (hcs : RowC w (fun x => M x ∨ x = b) size es xs) (hvs : Ts w (fun x => M x ∨ x = b) args vs) :
    ∃ g0, Rel ⟨M, w, [b], N⟩ (fun s => (Slot.rptr 0 es.length size k 0 :: args.map Slot.dat).getD s .any) (ows [(0, .rowA (.slice (some ⟨b, 0, none⟩) es.length cap) e size es)]) g0 { tmps := (Value.pointer (some ⟨b, k * size, none⟩) :: vs).toArray ++ Array.replicate (N - (Value.pointer (some ⟨b, k * size, none⟩) :: vs).toArray.size) undef, defers := [] } w := by
  have hvl : vs.length = args.length := hvs.1
  let ob : AObj := .rowA (.slice (some ⟨b, 0, none⟩) es.length cap) e size es
  let g0 : Gh := ⟨fun _ => none, fun id n => if id = 0 ∧ n = es.length then some (.slice (some ⟨b, 0, none⟩) es.length cap) else none⟩
  have hg0 : g0.sv 0 es.length = some (.slice (some ⟨b, 0, none⟩) es.length cap) := if_pos ⟨rfl, rfl⟩
  have hows : ∀ id o, ows [(0, ob)] id = some (some o) → id = 0 ∧ o = ob := fun id o ho => by
    by_cases hi : id = 0
    · subst hi
      have : ows [(0, ob)] 0 = some (some ob) := rfl
      rw [this] at ho
      cases ho; exact ⟨rfl, rfl⟩
    · simp only [ows, List.map_cons, upl, beq_false_of hi, cond_false, List.map_nil] at ho; cases ho
  have hMof : ∀ x, Mof ⟨M, w, [b], N⟩ g0 (ows [(0, ob)]) x ↔ (M x ∨ x = b) := fun x => by
    constructor
    · rintro (h | ⟨id, o, h1, h2⟩)
      · exact .inl h
      · obtain ⟨rfl, rfl⟩ := hows id o h1
        have h3 : some b = some x := h2
        cases h3; exact .inr rfl
    · rintro (h | rfl)
      · exact .inl h
      · exact .inr ⟨0, ob, rfl, rfl⟩
  have hE : Ext (fun x => M x ∨ x = b) (Mof ⟨M, w, [b], N⟩ g0 (ows [(0, ob)])) w w := ⟨Nat.le_refl _, fun _ _ _ => rfl, fun x _ hx => (hMof x).1 hx⟩
  refine ⟨g0, ?_⟩
  refine ⟨Kp.refl _ _, fun b' hb' => ⟨hM b' hb', fun hm => ?_⟩, ?_, rfl, fun s => ?_, fun id o ho => ?_, fun id id' o o' b' h1 h2 h3 h4 => ?_, fun id o b' h1 h2 => ?_, fun id h1 => ?_, fun id e size es h1 => ?_⟩
  · have : b' = b := by simpa using hm
    subst this; exact hMb hb'
  · simp; omega
  · cases s with
    | zero =>
      refine ⟨b, cap, hg0, ?_⟩
      rw [Array.getD_eq_getD_getElem?, Array.getElem?_append_left (by simp)]
      simp
    | succ s =>
      cases hs : args[s]? with
      | none =>
        have : (Slot.rptr 0 es.length size k 0 :: args.map Slot.dat).getD (s + 1) .any = .any := by rw [List.getD_eq_getElem?_getD, List.getElem?_cons_succ, List.getElem?_map, hs]; rfl
        rw [this]; trivial
      | some u =>
        have e1 : (Slot.rptr 0 es.length size k 0 :: args.map Slot.dat).getD (s + 1) .any = .dat u := by rw [List.getD_eq_getElem?_getD, List.getElem?_cons_succ, List.getElem?_map, hs]; rfl
        rw [e1]
        obtain ⟨x, hx, hp⟩ := hvs.2 s u hs
        have hlt : s < vs.length := (List.getElem?_eq_some_iff.1 hx).1
        show u.p w _ _
        rw [Array.getD_eq_getD_getElem?, Array.getElem?_append_left (by simp; omega), List.getElem?_toArray, List.getElem?_cons_succ, hx]
        exact u.keep hE hp
  · obtain ⟨rfl, rfl⟩ := hows id o ho
    refine ⟨xs, hg0, hown, h0, hsz, fun k c el u hk hc => ?_⟩
    obtain ⟨x, s1, s2, s3⟩ := hcs k c el u hk hc
    exact ⟨x, s1, u.keep hE s2, s3⟩
  · rw [(hows id o h1).1, (hows id' o' h2).1]
  · obtain ⟨rfl, rfl⟩ := hows id o h1
    have h3 : some b = some b' := h2
    cases h3
    exact .inl (by simp)
  · have hi : id ≠ 0 := by rintro rfl; cases h1
    exact ⟨rfl, fun _ => if_neg (fun h => hi h.1)⟩
  · obtain ⟨_, h2⟩ := hows id _ h1
    exact AObj.noConfusion (show AObj.row e size es = AObj.rowA _ _ _ _ from h2)
theorem impE_of {P : Program} {fn : Nat} {fc : Func} {c : Code} {e size k : Nat} {es es' : List (List V)} {args us : List V} {N : Nat} {rs : List ResultVar} (hok : callOK P fn = true) (hlen : es'.length = es.length) (hsz : ∀ el, el ∈ es' → el.length = size) (hf : P.funcs[fn]? = some fc) (hb : fc.body = some c) (hnt : fc.ntmps = N) (hrs : fc.results.toList = rs) (hn : Nat.blt args.length N = true)
    (h : ∀ (X : Ctx) (vv : Value), X.N = N → AWP P X c (fun e' f own => (match e' with | .ret => True | .normal => True | _ => False) ∧ ResVs P f own rs us ∧ own 0 = some (some (.rowA vv e size es'))) (fun s => (Slot.rptr 0 es.length size k 0 :: args.map Slot.dat).getD s .any) (ows [(0, .rowA vv e size es)])) :
    ImpE P fn e size es k args (resOf us) es' := by
  refine ⟨hok, hlen, hsz, fun M w b cap xs vs hM hMb hown h0 hsz0 hcs hvs => ?_⟩
  subst hnt hrs
  have hn : args.length < fc.ntmps := by simpa [Nat.blt_eq] using hn
  obtain ⟨g0, hrel⟩ := impE_start (k := k) hn hM hMb hown h0 hsz0 hcs hvs
  refine calls_of_wp hf hb (wp_mono (h ⟨M, w, [b], fc.ntmps⟩ (.slice (some ⟨b, 0, none⟩) es.length cap) rfl g0 _ w hrel) ?_)
  rintro e' a' w' ⟨f', own', g', hr, he, hres, hown'⟩
  obtain ⟨xs', o1, o2, o3, o4, o5⟩ := hr.ob 0 _ hown'
  have hob : obk g' 0 (.rowA (.slice (some ⟨b, 0, none⟩) es.length cap) e size es') = some b := rfl
  have hsub : ∀ x, (M x ∨ x = b) → Mof ⟨M, w, [b], fc.ntmps⟩ g' own' x := fun x hx => by
    rcases hx with hx | rfl
    · exact .inl hx
    · exact .inr ⟨0, _, hown', hob⟩
  have hE' : Ext (Mof ⟨M, w, [b], fc.ntmps⟩ g' own') (fun x => M x ∨ x = b) w' w' := ⟨Nat.le_refl _, fun _ _ _ => rfl, fun x _ hx => hsub x hx⟩
  obtain ⟨v, hv1, hv2⟩ := run_res (P := P) hr (fun x => M x ∨ x = b) hE' (fun id e size es b' h1 h2 hm => by
    rcases hm with hm | rfl
    · have h5 := hr.m0 b' hm
      rcases hr.mine id _ b' h1 h2 with h6 | h6
      · exact h5.2 h6
      · have := h5.1
        omega
    · have h7 := hr.sep id 0 _ _ b' h1 hown' h2 hob
      subst h7
      rw [hown'] at h1
      cases h1) fc us hres
  have hfin : a'.defers = [] ∧ ∃ v, (results fc a'.tmps).run P w' = .ok v w' ∧ ∃ v_1 xs', Ending.returned v = .returned v_1 ∧ (resOf us).p w' (fun x => M x ∨ x = b) v_1 ∧ Kp [b] w w' ∧ w'.ownsRow 0 e size (.slice (some ⟨b, 0, none⟩) es.length cap) es.length xs' ∧ RowC w' (fun x => M x ∨ x = b) size es' xs' := by
    refine ⟨hr.df, v, hv1, v, xs', rfl, hv2, hr.kp, hlen ▸ o2, fun k c el u hk hc => ?_⟩
    obtain ⟨x, s1, s2, s3⟩ := o5 k c el u hk hc
    exact ⟨x, s1, u.keep hE' s2, s3⟩
  cases e' with
  | normal => exact hfin
  | ret => exact hfin
  | exit _ => exact he.elim
  | goto _ => exact he.elim
  | panic _ => exact he.elim
  | outgrown => exact he.elim
section
variable {P : Program} {f : Nat → Slot} {dst : Option Tmp} {ty : TypeId} {pos : String} {af : Array Edge} {gd : Option (Nat × Bool)}
theorem stp_impE {fn : Nat} {p : Operand} {xs : List Operand} {ts : Array TypeId} {id k m size : Nat} {e : TypeId} {es es' : List (List V)} {us : List V} {res : V} (hF : ImpE P fn e size es k us res es') (hp : evS f p = .rptr id m size k 0) (hm : m = es.length) (ha : argsV f xs us) :
    Stp P ⟨dst, .call { callee := .value (.func fn), args := (p :: xs).toArray, argTypes := ts }, ty, pos, af, gd⟩ f ⟨false, [(id, some (some (.row e size es)))], [(id, some (some (.row e size es')))], .dat res⟩ := by
  intro X f' own g a w Q hr hd hx hrd K hK
  have ho : own id = some (some (.row e size es)) := hrd (id, _) (by simp)
  have hop : ∀ y, y ∈ p :: xs → RepS g w (Mof X g own) (evS f y) (a.eval y) := fun y hy => by
    have := hx y (by simp only [Op.operands, Call.operands]; simp at hy ⊢; exact .inr hy)
    rw [← this]; exact hr.ev y
  have h1 := hop p (by simp)
  rw [hp] at h1
  obtain ⟨b, cap, h2, h3⟩ := h1
  obtain ⟨v, ys, q1, q2, q3, q4, q5⟩ := hr.ob id _ ho
  subst hm
  rw [h2] at q1
  cases q1
  have hobk : obk g id (.row e size es) = some b := by simp only [obk, h2]; rfl
  have hMeq : (fun x => (Mof X g own x ∧ x ≠ b) ∨ x = b) = Mof X g own := by
    funext x
    apply propext
    constructor
    · rintro (h | rfl)
      · exact h.1
      · exact .inr ⟨id, _, ho, hobk⟩
    · intro h
      by_cases hxb : x = b
      · exact .inr hxb
      · exact .inl ⟨h, hxb⟩
  unfold Oper.wp
  rw [run_call hF.1 _ ts a.eval rfl w]
  show Calls P fn ((p :: xs).toArray.map a.eval) w _
  have harg : (p :: xs).toArray.map a.eval = (Value.pointer (some ⟨b, k * size, none⟩) :: xs.map a.eval).toArray := by simp [h3]
  rw [harg]
  have hcall := hF.2.2.2 (fun x => Mof X g own x ∧ x ≠ b) w b cap ys (xs.map a.eval) (fun b' hb' => hr.mlt b' hb'.1) (fun h => h.2 rfl) q2 q3 q4 (by rw [hMeq]; exact q5) (by rw [hMeq]; exact argsV_rep xs us ha (fun y hy => hop y (List.mem_cons_of_mem _ hy)))
  refine hcall.mono ?_
  rintro e' w' ⟨v, ys', rfl, r1, r2, r3, r4⟩
  rw [hMeq] at r1 r4
  have hb := (hr.ob id _ ho).blk_lt hobk
  have hout : ∀ M' : Blks, Ext (Mof X g own) M' w w' → (∀ b'', w.heap.size ≤ b'' → M' b'' → b'' = b) → Ext (Mof X g own) M' w' w' := fun M' he hM => ⟨Nat.le_refl _, fun _ _ _ => rfl, fun b'' hb'' hm => by
    rcases Nat.lt_or_ge b'' w.heap.size with hlt | hge
    · exact he.sub b'' hlt hm
    · have := hM b'' hge hm; omega⟩
  have hobk' : obk g id (.row e size es') = some b := by simp only [obk, hF.2.1, h2]; rfl
  obtain ⟨hr', he⟩ := rel_upd (id := id) (ob' := .row e size es') hr (Gh.le_refl g) (fun i _ => ⟨rfl, fun _ => rfl⟩) (.inr ⟨_, b, ho, hobk, r2⟩) (fun b' hb' => .inr ⟨_, ho, by rw [hobk, ← hobk', hb']⟩) (fun e'' size'' es'' h k' hk' => by cases h; exact hr.top id e size es ho k' (by rw [← hF.2.1]; exact hk'))
    (fun M' he hM => ⟨.slice (some ⟨b, 0, none⟩) es.length cap, ys', by rw [hF.2.1]; exact h2, by rw [hF.2.1]; exact r3, q3, hF.2.2.1, fun k' c' el u hk' hc' => by
      obtain ⟨x, s1, s2, s3⟩ := r4 k' c' el u hk' hc'
      exact ⟨x, s1, u.keep (hout M' he fun b'' h5 h6 => by have := hM b'' h5 h6; rw [hobk'] at this; cases this; rfl) s2, s3⟩⟩)
  refine hK g v w' (hr'.put _ (.dat res) v hd (res.keep (hout _ he fun b'' h5 h6 => ?_) r1))
  rcases h6 with h6 | ⟨i, o, h7, h8⟩
  · have h9 := (hr.m0 b'' h6).1
    have := hr.kp.size
    omega
  · by_cases hi : i = id
    · subst hi
      rw [upl_self] at h7
      cases h7
      rw [hobk'] at h8
      cases h8; rfl
    · rw [upl_ne hi] at h7
      have := (hr.ob i o h7).blk_lt h8
      omega
end
end Go.Proofs.Ytmcegaabopcmfaa
