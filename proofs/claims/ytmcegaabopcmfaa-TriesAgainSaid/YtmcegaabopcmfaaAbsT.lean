/- The region's law of the abstract machine, and the rules for code. -/
import Derived.Test.YtmcegaabopcmfaaAbsR
namespace Go.Proofs.Ytmcegaabopcmfaa
open Go.RowKit
set_option linter.unusedVariables false

theorem memD_all {β : Type} {W : Nat → List (Nat × β)} {D : Nat → Bool} {f : Nat → β} {n : Nat} (h : ∀ j, j < n → D j = true) : memD W D f n = memD W (fun _ => true) f n := by
  funext k
  exact memD_below fun j hj _ => h j hj
theorem memD_none {β : Type} {W : Nat → List (Nat × β)} {D : Nat → Bool} {f : Nat → β} {n : Nat} (h : ∀ j, D j = false) : memD W D f n = f := by
  induction n with
  | zero => rfl
  | succ n ih => simp [memD, h n, ih]
theorem least_off {D : Nat → Bool} : ∀ (n i : Nat), i < n → D i = false → ∃ m, m < n ∧ D m = false ∧ ∀ j, j < m → D j = true := by
  intro n
  induction n with
  | zero => intro i hi; omega
  | succ n ih =>
    intro i hi hd
    by_cases h : ∃ j, j < n ∧ D j = false
    · obtain ⟨j, hj, hdj⟩ := h
      obtain ⟨m, h1, h2, h3⟩ := ih j hj hdj
      exact ⟨m, by omega, h2, h3⟩
    · have hn : ∀ j, j < n → D j = true := fun j hj => by
        cases hd' : D j
        · exact absurd ⟨j, hj, hd'⟩ h
        · rfl
      rcases Nat.lt_or_ge i n with hl | hl
      · rw [hn i hl] at hd; cases hd
      · obtain rfl : i = n := by omega
        exact ⟨i, by omega, hd, hn⟩

theorem getD_repl (n i : Nat) : (Array.replicate n false).getD i false = false := by
  rw [Array.getD_eq_getD_getElem?, Array.getElem?_replicate]
  split <;> rfl

def vb (v : Value) : Option Bool := match v with
  | .bool b => some b
  | _ => none
theorem yielded_at {ops : Array Oper} {tmps : Array Value} {j d : Nat} (h : (ops[j]?).bind (·.dst) = some d) : yielded ops tmps j = vb (tmps.getD d undef) := by
  unfold yielded
  rw [h, Array.getD_eq_getD_getElem?]
  simp only [Option.bind_some]
  cases tmps[d]? with
  | none => rfl
  | some x => cases x <;> rfl
theorem vb_skip (v : Value) (want : Bool) : (vb v == some want) = !gskip v want := by
  cases v <;> try rfl
  rename_i b
  cases b <;> cases want <;> rfl

theorem RepS.bool {g : Gh} {w : World} {M : Blks} {b : Bool} {v : Value} (h : RepS g w M (.dat (vval (.bool b))) v) : v = .bool b := h

section
variable {P : Program} {ops : Array Oper} {X : Ctx} {Q : Exit → Act → World → Prop}

theorem wanted_of {o : Oper} {f : Nat → Slot} {own : Own} {g : Gh} {a : Act} {w : World} {skip : Bool} (h : Rel X f own g a w)
    (hg : match o.guard with
      | none => skip = false
      | some (j, want) => ∃ d v, (ops[j]?).bind (·.dst) = some d ∧ f d = .dat (vval v) ∧ skip = gskip v want) :
    Region.wanted o (yielded ops a.tmps) = !skip := by
  unfold Region.wanted
  cases hgd : o.guard with
  | none => rw [hgd] at hg; simp only at hg; rw [hg]; rfl
  | some q =>
    obtain ⟨j, want⟩ := q
    rw [hgd] at hg
    obtain ⟨d, v, h1, h2, h3⟩ := hg
    have hr := h.fr d
    rw [h2] at hr
    have hv : a.tmps.getD d undef = v := hr
    simp only [yielded_at h1, hv, h3]
    exact vb_skip v want

theorem region_any (T : Nat → Tr) (f : Nat → Slot) (own : Own) (hE : edgesOK ops = true) (hN : dstsOK X.N ops = true)
    (hT : ∀ i o, ops[i]? = some o → StepOK P ops o (memD (Wf ops T) (fun _ => true) f i) (memD (Wo T) (fun _ => true) own i) (T i))
    (hC : ∀ i j, i < j → j < ops.size → clash ops (fun i => keys (T i).rd) (fun i => keys (T i).wr) i j = true → i ∈ ancOf ops ops.size j)
    (hQ : ∀ g a w, Rel X (memD (Wf ops T) (fun _ => true) f ops.size) (memD (Wo T) (fun _ => true) own ops.size) g a w → Q .normal a w) :
    ∀ (fuel : Nat) (listed : Array Bool) (g : Gh) (a : Act) (w : World), listed.size = ops.size → cnt (fun i => listed.getD i false) ops.size = fuel →
      (∀ j o, ops[j]? = some o → listed.getD j false = true → ∀ e ∈ o.after, Region.binds .any e = true → listed.getD e.on false = true) →
      Rel X (memD (Wf ops T) (fun i => listed.getD i false) f ops.size) (memD (Wo T) (fun i => listed.getD i false) own ops.size) g a w → wpAny P .any ops Q fuel listed a w := by
  have hget : ∀ (listed : Array Bool) i, listed.size = ops.size → i < ops.size → listed.getD i true = listed.getD i false := by
    intro listed i hs hi
    rw [Array.getD_eq_getD_getElem?, Array.getD_eq_getD_getElem?, Array.getElem?_eq_getElem (by omega)]
    rfl
  intro fuel
  induction fuel with
  | zero =>
    intro listed g a w hs hc hd hr
    have hall := cnt_zero hc
    refine ⟨?_, ?_⟩
    · refine List.eq_nil_iff_forall_not_mem.2 fun i hi => ?_
      obtain ⟨h1, o, ho, _⟩ := mem_ready.1 hi
      have hlt : i < ops.size := (Array.getElem?_eq_some_iff.1 ho).1
      rw [hget listed i hs hlt, hall i hlt] at h1
      cases h1
    · rw [memD_all hall, memD_all hall] at hr
      exact hQ g a w hr
  | succ fuel ih =>
    intro listed g a w hs hc hd hr
    refine ⟨fun hnil => ?_, fun i hi => ?_⟩
    · exfalso
      by_cases hex : ∃ i, i < ops.size ∧ listed.getD i false = false
      · obtain ⟨i, h1, h2⟩ := hex
        obtain ⟨m, h3, h4, h5⟩ := least_off (D := fun i => listed.getD i false) ops.size i h1 h2
        have hm : m ∈ Region.ready .any ops listed := by
          refine mem_ready.2 ⟨by rw [hget listed m hs h3]; exact h4, ops[m], Array.getElem?_eq_getElem h3, fun e he hb => ?_⟩
          unfold edgesOK at hE
          rw [List.all_eq_true] at hE
          have h6 := hE m (List.mem_range.2 h3)
          rw [Array.getElem?_eq_getElem h3] at h6
          rw [List.all_eq_true] at h6
          have h7 := h6 e (Array.mem_toList_iff.2 he)
          rw [hb] at h7
          have h8 : e.on < m := by simpa [Nat.blt_eq] using h7
          exact h5 e.on h8
        rw [hnil] at hm
        cases hm
      · have hz : ∀ i, i < ops.size → listed.getD i false = true := fun i hi => by
          cases h : listed.getD i false
          · exact absurd ⟨i, hi, h⟩ hex
          · rfl
        have : ∀ n, n ≤ ops.size → cnt (fun i => listed.getD i false) n = 0 := by
          intro n
          induction n with
          | zero => intro _; rfl
          | succ n ihn => intro hn; simp only [cnt, ihn (by omega), hz n (by omega)]; rfl
        rw [this ops.size (Nat.le_refl _)] at hc
        omega
    · obtain ⟨h1, o, ho, hall⟩ := mem_ready.1 hi
      have hlt : i < ops.size := (Array.getElem?_eq_some_iff.1 ho).1
      rw [hget listed i hs hlt] at h1
      obtain ⟨hgd, hrun, hskip, hsub⟩ := hT i o ho
      -- who is ahead of i is done; who is behind is not
      have hfore : ∀ j, i ∈ ancOf ops ops.size j → listed.getD j false = false := fun j hj => by
        cases h : listed.getD j false
        · rfl
        · have := ancOf_in (D := fun i => listed.getD i false) hd ops.size j i hj h
          simp only [h1] at this
          cases this
      have hback : ∀ j, j ∈ ancOf ops ops.size i → listed.getD j false = true := by
        intro j hj
        have hD2 : ∀ j' o', ops[j']? = some o' → (fun x => listed.getD x false || decide (x = i)) j' = true → ∀ e ∈ o'.after, Region.binds .any e = true → (fun x => listed.getD x false || decide (x = i)) e.on = true := by
          intro j' o' ho' hj' e he hb
          by_cases hji : j' = i
          · subst hji
            rw [ho] at ho'
            cases ho'
            simp only [hall e he hb, Bool.true_or]
          · have : listed.getD j' false = true := by simpa [hji] using hj'
            simp only [hd j' o' ho' this e he hb, Bool.true_or]
        have h2 := ancOf_in hD2 ops.size i j hj (by simp)
        by_cases hji : j = i
        · subst hji
          have := hfore j hj
          exfalso
          have hlt2 : ∀ n q, q ∈ ancOf ops n j → q < j := by
            have hE' := hE
            unfold edgesOK at hE'
            rw [List.all_eq_true] at hE'
            have key : ∀ n m q, m < ops.size → q ∈ ancOf ops n m → q < m := by
              intro n
              induction n with
              | zero => intro m q _ h; cases h
              | succ n ihn =>
                intro m q hm h
                unfold ancOf at h
                rw [Array.getElem?_eq_getElem hm] at h
                simp only [List.mem_flatMap, Array.mem_toList_iff] at h
                obtain ⟨e, he, hq⟩ := h
                by_cases hb : Region.binds .any e = true
                · rw [if_pos hb] at hq
                  have h6 := hE' m (List.mem_range.2 hm)
                  rw [Array.getElem?_eq_getElem hm] at h6
                  rw [List.all_eq_true] at h6
                  have h7 := h6 e (Array.mem_toList_iff.2 he)
                  rw [hb] at h7
                  have h8 : e.on < m := by simpa [Nat.blt_eq] using h7
                  rcases List.mem_cons.1 hq with rfl | hq
                  · exact h8
                  · have := ihn e.on q (by omega) hq
                    omega
                · rw [if_neg hb] at hq; cases hq
            exact fun n q hq => key n j q hlt hq
          have := hlt2 _ _ hj
          omega
        · simpa [hji] using h2
      have hcl1 : ∀ j, j < i → clash ops (fun i => keys (T i).rd) (fun i => keys (T i).wr) j i = true → listed.getD j false = true := fun j hj hc => hback j (hC j i hj hlt hc)
      have hcl2 : ∀ j, i < j → j < ops.size → clash ops (fun i => keys (T i).rd) (fun i => keys (T i).wr) i j = true → listed.getD j false = false := fun j hj hjn hc => hfore j (hC i j hj hjn hc)
      have hself : ∀ j, i ≤ j → j < ops.size → clash ops (fun i => keys (T i).rd) (fun i => keys (T i).wr) i j = true → listed.getD j false = false := fun j hj hjn hc => by
        rcases Nat.lt_or_ge i j with h | h
        · exact hcl2 j h hjn hc
        · obtain rfl : i = j := by omega
          exact h1
      have hkf : ∀ j d, d ∈ keys (Wf ops T j) → d ∈ dstOf ops j := by
        intro j d hd
        unfold Wf at hd
        unfold dstOf
        cases hq : (ops[j]?).bind (·.dst) with
        | none => rw [hq] at hd; cases hd
        | some d' => rw [hq] at hd; simpa [keys] using hd
      have hlooks : looks ops i = o.looksAt ops := by simp [looks, ho]
      have hf : ∀ t, t ∈ looks ops i → memD (Wf ops T) (fun i => listed.getD i false) f ops.size t = memD (Wf ops T) (fun _ => true) f i t := fun t ht =>
        memD_agree (Nat.le_of_lt hlt)
          (fun j hj hk => hcl1 j hj (by unfold clash; rw [meets_of (hkf j t hk) ht]; simp))
          (fun j hj hjn hk => hself j hj hjn (by unfold clash; rw [meets_of (hkf j t hk) ht]; simp))
      have ho' : ∀ q, q ∈ keys (T i).rd → memD (Wo T) (fun i => listed.getD i false) own ops.size q = memD (Wo T) (fun _ => true) own i q := fun q hq =>
        memD_agree (Nat.le_of_lt hlt)
          (fun j hj hk => hcl1 j hj (by unfold clash; rw [meets_of (a := keys (T j).wr) hk hq]; simp))
          (fun j hj hjn hk => hself j hj hjn (by unfold clash; rw [meets_of (b := keys (T j).wr) hq hk]; simp))
      -- the next state
      have hset : ∀ j, (listed.setIfInBounds i true).getD j false = (listed.getD j false || decide (j = i)) := by
        intro j
        rw [Array.getD_eq_getD_getElem?, Array.getD_eq_getD_getElem?, Array.getElem?_setIfInBounds]
        by_cases hj : i = j
        · subst hj; simp [hs, hlt]
        · rw [if_neg hj]; simp [Ne.symm hj]
      have hmf : memD (Wf ops T) (fun j => (listed.setIfInBounds i true).getD j false) f ops.size = updS (memD (Wf ops T) (fun i => listed.getD i false) f ops.size) o.dst (T i).s := by
        rw [memD_set hlt h1 hset, updS_upl]
        · unfold Wf; rw [ho]; rfl
        · intro j hj hjn hDj k hk1 hk2
          have := hcl2 j hj hjn (by unfold clash; rw [meets_of (hkf i k hk1) (hkf j k hk2)]; simp)
          rw [this] at hDj; cases hDj
      have hmo : memD (Wo T) (fun j => (listed.setIfInBounds i true).getD j false) own ops.size = upl (memD (Wo T) (fun i => listed.getD i false) own ops.size) (T i).wr := by
        rw [memD_set hlt h1 hset]
        · rfl
        · intro j hj hjn hDj k hk1 hk2
          have hjo : ∃ oj, ops[j]? = some oj := ⟨ops[j], Array.getElem?_eq_getElem hjn⟩
          obtain ⟨oj, hoj⟩ := hjo
          have := hcl2 j hj hjn (by unfold clash; rw [meets_of (a := keys (T i).wr) hk1 ((hT j oj hoj).2.2.2 k hk2)]; simp)
          rw [this] at hDj; cases hDj
      have hnext : ∀ g' v w', Rel X (updS (memD (Wf ops T) (fun i => listed.getD i false) f ops.size) o.dst (T i).s) (upl (memD (Wo T) (fun i => listed.getD i false) own ops.size) (T i).wr) g' (a.put o.dst v) w' →
          wpAny P .any ops Q fuel (listed.setIfInBounds i true) (a.put o.dst v) w' := by
        intro g' v w' hr'
        refine ih _ g' _ w' (by simpa using hs) ?_ ?_ ?_
        · have := cnt_set (D := fun i => listed.getD i false) hlt h1 hset
          omega
        · intro j o' ho'' hj e he hb
          rw [hset] at hj ⊢
          by_cases hji : j = i
          · subst hji
            rw [ho] at ho''
            cases ho''
            rw [hall e he hb]; rfl
          · have : listed.getD j false = true := by simpa [hji] using hj
            rw [hd j o' ho'' this e he hb]; rfl
        · rw [hmf, hmo]; exact hr'
      have hdN : ∀ d, o.dst = some d → d < X.N := fun d hd => by
        unfold dstsOK at hN
        rw [List.all_eq_true] at hN
        have h2 := hN o (Array.mem_toList_iff.2 (Array.mem_of_getElem? ho))
        rw [hd] at h2
        simpa [Nat.blt_eq] using h2
      unfold wpOp
      rw [ho]
      have hw : Region.wanted o (yielded ops a.tmps) = !(T i).skip := by
        refine wanted_of hr ?_
        cases hgo : o.guard with
        | none => rw [hgo] at hgd; exact hgd
        | some q =>
          obtain ⟨j, want⟩ := q
          rw [hgo] at hgd
          obtain ⟨d, v, g1, g2, g3⟩ := hgd
          refine ⟨d, v, g1, ?_, g3⟩
          rw [hf d (by rw [hlooks]; unfold Oper.looksAt; rw [hgo]; simp [g1])]
          exact g2
      cases hsk : (T i).skip with
      | false =>
        rw [hsk] at hw
        simp only [hw, Bool.not_false, if_true]
        obtain ⟨hst, hrd⟩ := hrun hsk
        refine .inl (hst X _ _ g a w Q hr hdN (fun x hx => ?_) (fun q hq => ?_) _ hnext)
        · cases x with
          | tmp t => exact hf t (by rw [hlooks]; unfold Oper.looksAt; rw [List.mem_append]; exact .inl (List.mem_filterMap.2 ⟨_, by simpa using hx, rfl⟩))
          | _ => rfl
        · rw [ho' q.1 (List.mem_map.2 ⟨q, hq, rfl⟩)]
          exact hrd q hq
      | true =>
        rw [hsk] at hw
        simp only [hw, Bool.not_true, Bool.false_eq_true, if_false]
        obtain ⟨e1, e2, e3⟩ := hskip hsk
        refine hnext g undef w ?_
        rw [e1, e3]
        exact hr.put o.dst (.dat (vval undef)) undef hdN rfl

/-- the run in the order of the text -/
def seqA (P : Program) (ops : Array Oper) : List Oper → (Nat → Slot) → Own → List (List Nat × List Nat) → ((Nat → Slot) → Own → List (List Nat × List Nat) → Prop) → Prop
  | [], f, own, lg, K => K f own lg
  | o :: os, f, own, lg, K => ∃ T : Tr, StepOK P ops o f own T ∧ seqA P ops os (updS f o.dst T.s) (upl own T.wr) ((keys T.rd, keys T.wr) :: lg) K

theorem seqA_tr : ∀ (os : List Oper) (i : Nat) (T : Nat → Tr) (f : Nat → Slot) (own : Own) (lg : List (List Nat × List Nat)) (K : (Nat → Slot) → Own → List (List Nat × List Nat) → Prop),
    ops.toList.drop i = os → i ≤ ops.size → lg.length = i → (∀ j, j < i → lg.reverse[j]? = some (keys (T j).rd, keys (T j).wr)) →
    seqA P ops os (memD (Wf ops T) (fun _ => true) f i) (memD (Wo T) (fun _ => true) own i) lg K →
    ∃ (T' : Nat → Tr) (lg' : List (List Nat × List Nat)), (∀ j, j < i → T' j = T j) ∧ lg'.length = ops.size ∧ (∀ j, j < ops.size → lg'.reverse[j]? = some (keys (T' j).rd, keys (T' j).wr)) ∧
      (∀ j o, i ≤ j → ops[j]? = some o → StepOK P ops o (memD (Wf ops T') (fun _ => true) f j) (memD (Wo T') (fun _ => true) own j) (T' j)) ∧
      K (memD (Wf ops T') (fun _ => true) f ops.size) (memD (Wo T') (fun _ => true) own ops.size) lg' := by
  intro os
  induction os with
  | nil =>
    intro i T f own lg K hos hi hl hlg h
    have hle : ops.size ≤ i := by
      have h2 := congrArg List.length hos
      simp only [List.length_drop, List.length_nil, Array.length_toList] at h2
      omega
    obtain rfl : i = ops.size := by omega
    refine ⟨T, lg, fun _ _ => rfl, hl, hlg, fun j o hj ho => ?_, h⟩
    have := (Array.getElem?_eq_some_iff.1 ho).1
    omega
  | cons o os ih =>
    intro i T f own lg K hos hi hl hlg h
    have hlt : i < ops.size := by
      have h2 := congrArg List.length hos
      simp only [List.length_drop, List.length_cons, Array.length_toList] at h2
      omega
    have hoi : ops[i]? = some o := by
      have h2 := List.drop_eq_getElem_cons (l := ops.toList) (i := i) (by simpa using hlt)
      rw [hos] at h2
      injection h2 with h3 h4
      rw [Array.getElem?_eq_getElem hlt]
      exact congrArg some h3.symm
    have hos' : ops.toList.drop (i + 1) = os := by
      have h2 := List.drop_eq_getElem_cons (l := ops.toList) (i := i) (by simpa using hlt)
      rw [hos] at h2
      injection h2 with h3 h4
      exact h4.symm
    obtain ⟨t, h1, h2⟩ := h
    let T1 : Nat → Tr := fun j => if j = i then t else T j
    have hT1 : ∀ j, j < i → T1 j = T j := fun j hj => if_neg (by omega)
    have hT1i : T1 i = t := if_pos rfl
    have hmF : ∀ m, m ≤ i → memD (Wf ops T1) (fun _ => true) f m = memD (Wf ops T) (fun _ => true) f m := by
      intro m
      induction m with
      | zero => intro _; rfl
      | succ m ihm =>
        intro hm
        have : Wf ops T1 m = Wf ops T m := by unfold Wf; rw [hT1 m (by omega)]
        simp only [memD, if_true, ihm (by omega), this]
    have hmO : ∀ m, m ≤ i → memD (Wo T1) (fun _ => true) own m = memD (Wo T) (fun _ => true) own m := by
      intro m
      induction m with
      | zero => intro _; rfl
      | succ m ihm =>
        intro hm
        have : Wo T1 m = Wo T m := by unfold Wo; rw [hT1 m (by omega)]
        simp only [memD, if_true, ihm (by omega), this]
    have eF : memD (Wf ops T1) (fun _ => true) f (i + 1) = updS (memD (Wf ops T) (fun _ => true) f i) o.dst t.s := by
      simp only [memD, if_true, hmF i (Nat.le_refl _), updS_upl]
      unfold Wf; rw [hoi, hT1i]; rfl
    have eO : memD (Wo T1) (fun _ => true) own (i + 1) = upl (memD (Wo T) (fun _ => true) own i) t.wr := by
      simp only [memD, if_true, hmO i (Nat.le_refl _)]
      unfold Wo; rw [hT1i]
    rw [← eF, ← eO] at h2
    obtain ⟨T', lg', a1, a2, a3, a4, a5⟩ := ih (i + 1) T1 f own _ K hos' hlt (by simp [hl]) (fun j hj => by
      rw [List.reverse_cons]
      rcases Nat.lt_or_ge j i with hl' | hl'
      · rw [List.getElem?_append_left (by simp; omega), hlg j hl', hT1 j hl']
      · obtain rfl : j = i := by omega
        rw [List.getElem?_append_right (by simp [hl]), hT1i]; simp [hl]) h2
    refine ⟨T', lg', fun j hj => (a1 j (by omega)).trans (hT1 j hj), a2, a3, fun j o' hj ho' => ?_, a5⟩
    rcases Nat.lt_or_ge i j with hl' | hl'
    · exact a4 j o' hl' ho'
    · obtain rfl : j = i := by omega
      rw [hoi] at ho'
      cases ho'
      have e1 : T' j = t := (a1 j (by omega)).trans hT1i
      have eF' : memD (Wf ops T') (fun _ => true) f j = memD (Wf ops T) (fun _ => true) f j := by
        have : ∀ m, m ≤ j → memD (Wf ops T') (fun _ => true) f m = memD (Wf ops T) (fun _ => true) f m := by
          intro m
          induction m with
          | zero => intro _; rfl
          | succ m ihm =>
            intro hm
            have : Wf ops T' m = Wf ops T m := by unfold Wf; rw [a1 m (by omega), hT1 m (by omega)]
            simp only [memD, if_true, ihm (by omega), this]
        exact this j (Nat.le_refl _)
      have eO' : memD (Wo T') (fun _ => true) own j = memD (Wo T) (fun _ => true) own j := by
        have : ∀ m, m ≤ j → memD (Wo T') (fun _ => true) own m = memD (Wo T) (fun _ => true) own m := by
          intro m
          induction m with
          | zero => intro _; rfl
          | succ m ihm =>
            intro hm
            have : Wo T' m = Wo T m := by unfold Wo; rw [a1 m (by omega), hT1 m (by omega)]
            simp only [memD, if_true, ihm (by omega), this]
        exact this j (Nat.le_refl _)
      rw [e1, eF', eO']
      exact h1
end

/-- what holds of code -/
def AWP (P : Program) (X : Ctx) (c : Code) (Q : Exit → (Nat → Slot) → Own → Prop) (f : Nat → Slot) (own : Own) : Prop :=
  ∀ (g : Gh) (a : Act) (w : World), Rel X f own g a w → c.wp P (fun e a' w' => ∃ f' own' g', Rel X f' own' g' a' w' ∧ Q e f' own') a w

theorem awp_draw {P : Program} {X : Ctx} {id : Nat} {ops : Array Oper} {Q : Exit → (Nat → Slot) → Own → Prop} {f : Nat → Slot} {own : Own} {N : Nat} (hm : P.follows .mixedOrders = true)
    (hX : X.N = N) (hE : edgesOK ops = true) (hN : dstsOK N ops = true) (h : seqA P ops ops.toList f own [] fun f' own' lg => confOK ops lg.reverse = true ∧ Q .normal f' own') : AWP P X (.region id ops true) Q f own := by
  subst hX
  intro g a w hr
  refine wp_region_any hm ?_
  obtain ⟨T, lg, _, a2, a3, a4, a5, a6⟩ := seqA_tr (P := P) (ops := ops) ops.toList 0 (fun _ => ⟨false, [], [], .any⟩) f own [] _ rfl (Nat.zero_le _) rfl (fun j hj => absurd hj (by omega)) h
  refine region_any (X := X) T f own hE hN (fun i o ho => a4 i o (Nat.zero_le _) ho) (fun i j hij hjn hc => ?_) (fun g a w hr => ⟨_, _, g, hr, a6⟩) _ _ g a _ (by simp) ?_ (fun j o ho hj => ?_) ?_
  · unfold confOK at a5
    rw [List.all_eq_true] at a5
    have h1 := a5 j (List.mem_range.2 hjn)
    rw [List.all_eq_true] at h1
    have h2 := h1 i (List.mem_range.2 hij)
    have e1 : ∀ q, q < ops.size → lg.reverse.getD q ([], []) = (keys (T q).rd, keys (T q).wr) := fun q hq => by
      rw [List.getD_eq_getElem?_getD, a3 q hq]; rfl
    have e2 : clash ops (fun i => (lg.reverse.getD i ([], [])).1) (fun i => (lg.reverse.getD i ([], [])).2) i j = clash ops (fun i => keys (T i).rd) (fun i => keys (T i).wr) i j := by
      unfold clash
      simp only [e1 i (by omega), e1 j hjn]
    rw [e2, hc] at h2
    simpa using h2
  · have : ∀ n, n ≤ ops.size → cnt (fun i => (Array.replicate ops.size false).getD i false) n = n := by
      intro n
      induction n with
      | zero => intro _; rfl
      | succ n ih =>
        intro hn
        have : (Array.replicate ops.size false).getD n false = false := getD_repl _ _
        simp only [cnt, ih (by omega), this]; rfl
    exact this _ (Nat.le_refl _)
  · have : (Array.replicate ops.size false).getD j false = false := getD_repl _ _
    rw [this] at hj; cases hj
  · have hz : ∀ j, (fun i => (Array.replicate ops.size false).getD i false) j = false := fun j => getD_repl _ _
    rw [memD_none hz, memD_none hz]
    exact hr.grow (Kp.refl [] w).drew

theorem seqA_ops {P : Program} {X : Ctx} {ops : Array Oper} {Q : Exit → (Nat → Slot) → Own → Prop} (hN : dstsOK X.N ops = true) :
    ∀ (os : List Oper) (i : Nat) (f : Nat → Slot) (own : Own) (lg : List (List Nat × List Nat)) (g : Gh) (a : Act) (w : World), ops.toList.drop i = os → Rel X f own g a w →
      seqA P ops os f own lg (fun f' own' _ => Q .normal f' own') →
      wpOps P ops (fun e a' w' => ∃ f' own' g', Rel X f' own' g' a' w' ∧ Q e f' own') ((List.range' i os.length)) a w := by
  intro os
  induction os with
  | nil => intro i f own lg g a w _ hr h; exact ⟨f, own, g, hr, h⟩
  | cons o os ih =>
    intro i f own lg g a w hos hr h
    have hlt : i < ops.size := by
      have h2 := congrArg List.length hos
      simp only [List.length_drop, List.length_cons, Array.length_toList] at h2
      omega
    have h2 := List.drop_eq_getElem_cons (l := ops.toList) (i := i) (by simpa using hlt)
    rw [hos] at h2
    injection h2 with h3 h4
    have hoi : ops[i]? = some o := by
      rw [Array.getElem?_eq_getElem hlt]
      exact congrArg some h3.symm
    obtain ⟨T, ⟨hgd, hrun, hskip, _⟩, h6⟩ := h
    have hdN : ∀ d, o.dst = some d → d < X.N := fun d hd => by
      unfold dstsOK at hN
      rw [List.all_eq_true] at hN
      have h2 := hN o (Array.mem_toList_iff.2 (Array.mem_of_getElem? hoi))
      rw [hd] at h2
      simpa [Nat.blt_eq] using h2
    rw [List.length_cons, List.range'_succ, wpOps_cons]
    unfold wpOp
    rw [hoi]
    have hw : Region.wanted o (yielded ops a.tmps) = !T.skip := wanted_of hr hgd
    cases hsk : T.skip with
    | false =>
      rw [hsk] at hw
      simp only [hw, Bool.not_false, if_true]
      obtain ⟨hst, hrd⟩ := hrun hsk
      exact .inl (hst X _ _ g a w _ hr hdN (fun x _ => rfl) hrd _ (fun g' v w' hr' => ih (i + 1) _ _ _ g' _ w' h4.symm hr' h6))
    | true =>
      rw [hsk] at hw
      simp only [hw, Bool.not_true, Bool.false_eq_true, if_false]
      obtain ⟨e1, e2, e3⟩ := hskip hsk
      refine ih (i + 1) _ _ _ g _ w h4.symm ?_ h6
      rw [e1, e3]
      exact hr.put o.dst (.dat (vval undef)) undef hdN rfl

theorem awp_plain {P : Program} {X : Ctx} {id : Nat} {ops : Array Oper} {Q : Exit → (Nat → Slot) → Own → Prop} {f : Nat → Slot} {own : Own}
    {N : Nat} (hX : X.N = N) (hN : dstsOK N ops = true) (h : seqA P ops ops.toList f own [] fun f' own' _ => Q .normal f' own') : AWP P X (.region id ops false) Q f own := by
  subst hX
  intro g a w hr
  refine wp_region ?_
  have := seqA_ops (P := P) (X := X) (Q := Q) hN ops.toList 0 f own [] g a w rfl hr h
  rw [Array.length_toList, ← List.range_eq_range'] at this
  exact this
end Go.Proofs.Ytmcegaabopcmfaa
