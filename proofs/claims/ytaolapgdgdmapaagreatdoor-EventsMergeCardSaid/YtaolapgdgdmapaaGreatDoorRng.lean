/- The abstract machine: a range over slices.Backward: the round's frame, the loop's record, the mark among the deferred calls; functions that hold one such range. -/
import Derived.Test.YtaolapgdgdmapaaGreatDoorMc
import Derived.RangeFuncNested
import Derived.RangeFuncLeaves
namespace Go.Proofs.YtaolapgdgdmapaaGreatDoor
open Go.RowKit
set_option linter.unusedVariables false

section plain
variable {α σ ρ : Type}
def back (body : Nat → α → σ → Option (σ ⊕ ρ)) (fin : σ → Option ρ) (l : List α) : Nat → σ → Option ρ
  | 0, s => fin s
  | n + 1, s => (l[n]?).bind fun x => (body n x s).bind (after (back body fin l n))
end plain

def vand (u : V) (c : Value) : V := ⟨fun w M v => v = c ∧ u.p w M v, u.one, fun e ⟨h1, h2⟩ => ⟨h1, u.keep e h2⟩, fun h _ _ _ ⟨_, h2⟩ => u.hone h h2⟩
section
variable {P : Program} {f : Nat → Slot} {dst : Option Tmp} {ty : TypeId} {pos : String} {af : Array Edge} {gd : Option (Nat × Bool)}
end

def boxB : AObj → Bool
  | .box _ _ _ => true
  | .row _ _ _ => true
  | _ => false
def isBx : AObj → Bool
  | .box _ _ _ => true
  | _ => false
theorem cel_blk {g : Gh} {w : World} {M : Blks} {id : Nat} {o : AObj} {b : Nat} (h : RepO g w M id o) (ho : boxB o = true) (hb : obk g id o = some b) : ∃ cs t fz, w.heap[b]? = some (.cells cs t fz) := by
  cases o with
  | box an t cs =>
    obtain ⟨b', lv, q1, _, q2, _⟩ := h
    simp only [obk] at hb
    rw [q1] at hb
    obtain rfl : b' = b := by injection hb
    exact ⟨_, _, _, q2⟩
  | row e size es =>
    obtain ⟨v, xs, q1, q2, _⟩ := h
    simp only [obk, q1, Option.bind_some] at hb
    rcases q2.2 with hn | ⟨q, cap, cur, hv, hbb, hq, hr⟩
    · rw [hn.1] at hb; cases hb
    · rw [hv] at hb
      obtain rfl : q = b := by
        have : some q = some b := hb
        injection this
      exact ⟨_, _, _, hq⟩
  | opq _ _ => cases ho
  | rowA _ _ _ _ => cases ho
theorem Rel.putCtl {X : Ctx} {f : Nat → Slot} {lo : List (Nat × AObj)} {g : Gh} {a : Act} {w : World} {l : Nat} {o : Obj} (h : Rel X f (ows lo) g a w) (hb : lo.all (fun p => boxB p.2) = true) (o' : Obj) (hl : w.heap[l]? = some o) (ho : still o = false) (hw : X.w0.heap.size ≤ l) : Rel X f (ows lo) g a (w.putObj l o') := by
  have hlt := heap_lt hl
  have hoth : ∀ b, b ≠ l → (w.putObj l o').heap[b]? = w.heap[b]? := fun b hb => World.putObj_heap_other hb
  have hcell : ∀ b cs t fz, w.heap[b]? = some (.cells cs t fz) → b ≠ l := fun b cs t fz h1 e => by
    subst e; rw [hl] at h1; cases h1; cases ho
  have he : Ext (Mof X g (ows lo)) (Mof X g (ows lo)) w (w.putObj l o') := ⟨by simp, fun b _ _ ⟨o1, h1, h2⟩ => hoth b (fun e => by subst e; rw [hl] at h1; cases h1; rw [ho] at h2; cases h2), fun b _ h => h⟩
  have hbox : ∀ id o, ows lo id = some (some o) → boxB o = true := fun id o h1 => by
    have : ∀ l : List (Nat × AObj), l.all (fun p => boxB p.2) = true → ows l id = some (some o) → boxB o = true := by
      intro l
      induction l with
      | nil => intro _ h; cases h
      | cons p l ih =>
        obtain ⟨k, q⟩ := p
        intro hl h2
        simp only [List.all_cons, Bool.and_eq_true] at hl
        have h2 : cond (Nat.beq id k) (some (some q)) (ows l id) = some (some o) := h2
        by_cases hk : id = k
        · subst hk
          have : Nat.beq id id = true := by simp
          rw [this] at h2; cases h2; exact hl.1
        · rw [beq_false_of hk] at h2; exact ih hl.2 h2
    exact this lo hb h1
  refine ⟨⟨h.kp.os, h.kp.tape, h.kp.output, by simpa using h.kp.size, fun k hk hn => (hoth k (by omega)).trans (h.kp.block k hk hn)⟩, h.m0, h.n, h.df, fun t => (h.fr t).keep he (Gh.le_refl g), fun id q h1 => ?_, h.sep, h.mine, h.fresh, h.top⟩
  refine (h.ob id q h1).keep he (Gh.le_refl g) fun b hb' => ?_
  have h2 := hbox id q h1
  have h3 := h.ob id q h1
  obtain ⟨cs, t, fz, h4⟩ := cel_blk h3 h2 hb'
  exact hoth b (hcell b _ _ _ h4)

def blks (g : Gh) (lo : List (Nat × AObj)) : List Nat := lo.filterMap fun p => obk g p.1 p.2
theorem blks_mem {g : Gh} {lo : List (Nat × AObj)} {b : Nat} : b ∈ blks g lo ↔ ∃ i o, (i, o) ∈ lo ∧ obk g i o = some b := by
  unfold blks
  rw [List.mem_filterMap]
  constructor
  · rintro ⟨⟨i, o⟩, h1, h2⟩; exact ⟨i, o, h1, h2⟩
  · rintro ⟨i, o, h1, h2⟩; exact ⟨(i, o), h1, h2⟩
theorem ows_mem {lo : List (Nat × AObj)} (nd : ndB (lo.map (·.1)) = true) {i : Nat} {o : AObj} : ows lo i = some (some o) ↔ (i, o) ∈ lo := ows_iff (ndB_nodup nd)
def hereC (X : Ctx) (g : Gh) (lo : List (Nat × AObj)) (w : World) (R : Option Nat) (D : List Deferred) : Ctx := ⟨X.M0, w, blks g lo, X.N, R, D⟩
abbrev Bx := List (Nat × AObj)
def anB (a : Nat) : AObj → AObj
  | .box _ t cs => .box (some a) t cs
  | o => o
def mkB (A : Nat → Nat) (l : Bx) : List (Nat × AObj) := l.map fun p => (p.1, anB (A p.1) p.2)
def kyB (p : Nat × AObj) : Nat × Bool := (p.1, isBx p.2)
theorem mkB_box (A : Nat → Nat) {l : Bx} (h : l.all (fun p => boxB p.2) = true) : (mkB A l).all (fun p => boxB p.2) = true := by
  unfold mkB
  rw [List.all_map, List.all_eq_true]
  rintro ⟨i, o⟩ hp
  have := List.all_eq_true.1 h _ hp
  cases o <;> exact this
theorem mkB_keys (A : Nat → Nat) (l : Bx) : (mkB A l).map (·.1) = l.map (·.1) := by unfold mkB; rw [List.map_map]; rfl
theorem mkB_has {A : Nat → Nat} {l : Bx} (nd : ndB (l.map (·.1)) = true) {id : Nat} {o0 : AObj} (h : (id, o0) ∈ l) : ows (mkB A l) id = some (some (anB (A id) o0)) := by
  refine (ows_mem (by rw [mkB_keys]; exact nd)).2 ?_
  unfold mkB
  exact List.mem_map.2 ⟨_, h, rfl⟩
def simS (l : Bx) : Slot → Bool
  | .dat _ => true
  | .ptr id _ => l.any fun p => Nat.beq p.1 id && isBx p.2
  | _ => false
theorem frs_sim {l0 : Bx} {lf : List (Nat × Slot)} (h : lf.all (fun p => simS l0 p.2) = true) (t : Nat) : frs lf t = .any ∨ simS l0 (frs lf t) = true := by
  induction lf with
  | nil => exact .inl rfl
  | cons p lf ih =>
    obtain ⟨k, s⟩ := p
    simp only [List.all_cons, Bool.and_eq_true] at h
    show cond (Nat.beq t k) s (frs lf t) = .any ∨ simS l0 (cond (Nat.beq t k) s (frs lf t)) = true
    by_cases hk : t = k
    · subst hk
      have : Nat.beq t t = true := by simp
      rw [this]; exact .inr h.1
    · rw [beq_false_of hk]; exact ih h.2

theorem Rel.rebase {X : Ctx} {f0 f' : Nat → Slot} {lo : List (Nat × AObj)} {own' : Own} {g g' : Gh} {a a' : Act} {w w' : World} {R : Option Nat} {D : List Deferred} (h : Rel X f0 (ows lo) g a w) (nd : ndB (lo.map (·.1)) = true) (h' : Rel (hereC X g lo w R D) f' own' g' a' w') :
    Rel { X with R := R, D := D } f' own' g' a' w' := by
  have hbk : ∀ b, b ∈ blks g lo → b ∈ X.S0 ∨ X.w0.heap.size ≤ b := fun b hb => by
    obtain ⟨i, o, h1, h2⟩ := blks_mem.1 hb
    exact h.mine i o b ((ows_mem nd).2 h1) h2
  refine ⟨h.kp.trans h'.kp hbk, h.m0, h'.n, h'.df, h'.fr, h'.ob, h'.sep, fun id o b h1 h2 => ?_, h'.fresh, h'.top⟩
  rcases h'.mine id o b h1 h2 with h4 | h4
  · exact hbk b h4
  · exact .inr (Nat.le_trans h.kp.size h4)
theorem Rel.out {X Y : Ctx} {lf : List (Nat × Slot)} {A : Nat → Nat} {l l' : Bx} {g g3 : Gh} {a a' : Act} {w w' : World} {f' : Nat → Slot}
    (h : Rel X (frs lf) (ows (mkB A l)) g a w) (h3 : Rel Y f' (ows (mkB A l')) g3 a' w') (hM0 : Y.M0 = X.M0) (hsz : w.heap.size ≤ w'.heap.size) (hkpX : Kp X.S0 X.w0 w')
    (hkp : ∀ b, b < w.heap.size → b ∉ blks g (mkB A l) → (∃ o, w.heap[b]? = some o ∧ still o = true) → w'.heap[b]? = w.heap[b]?)
    (hmine : ∀ id o b, ows (mkB A l') id = some (some o) → obk g3 id o = some b → b ∈ blks g (mkB A l) ∨ w.heap.size ≤ b)
    (nd : ndB (l.map (·.1)) = true) (nd' : ndB (l'.map (·.1)) = true) (hk : l'.map kyB = l.map kyB) (hsim : lf.all (fun p => simS l p.2) = true) :
    Rel X (frs lf) (ows (mkB A l')) g3 a w' := by
  have hbk : ∀ b, b ∈ blks g (mkB A l) → ∃ i o, ows (mkB A l) i = some (some o) ∧ obk g i o = some b := fun b hb => by
    obtain ⟨i, o, h1, h2⟩ := blks_mem.1 hb
    exact ⟨i, o, (ows_mem (by rw [mkB_keys]; exact nd)).2 h1, h2⟩
  have hMeq : ∀ b, Mof X g3 (ows (mkB A l')) b ↔ Mof Y g3 (ows (mkB A l')) b := fun b => by unfold Mof; rw [hM0]
  have he : Ext (Mof X g (ows (mkB A l))) (Mof X g3 (ows (mkB A l'))) w w' := by
    refine ⟨hsz, fun b hb hM hc => hkp b hb (fun hm => ?_) hc, fun b hb hM => ?_⟩
    · obtain ⟨i, o, h1, h2⟩ := hbk b hm
      exact hM (.inr ⟨i, o, h1, h2⟩)
    · rcases hM with hM | ⟨i, o, h1, h2⟩
      · exact .inl hM
      · rcases hmine i o b h1 h2 with h4 | h4
        · obtain ⟨i', o', h5, h6⟩ := hbk b h4
          exact .inr ⟨i', o', h5, h6⟩
        · omega
  have heY : Ext (Mof Y g3 (ows (mkB A l'))) (Mof X g3 (ows (mkB A l'))) w' w' := ⟨Nat.le_refl _, fun _ _ _ _ => rfl, fun b _ hb => (hMeq b).1 hb⟩
  refine ⟨hkpX, h.m0, h.n, h.df, fun t => ?_, fun id o h1 => (h3.ob id o h1).keep heY (Gh.le_refl g3) (fun _ _ => rfl), h3.sep, fun id o b h1 h2 => ?_, h3.fresh, h3.top⟩
  · have h4 := h.fr t
    rcases frs_sim hsim t with h5 | h5
    · rw [h5]; trivial
    · cases hq : frs lf t with
      | dat u => rw [hq] at h4; exact u.keep he h4
      | ptr id off =>
        rw [hq] at h4
        obtain ⟨b, h6, h7⟩ := h4
        refine ⟨b, ?_, h7⟩
        have hid : ∃ an t cs, (id, AObj.box an t cs) ∈ l := by
          rw [hq] at h5
          obtain ⟨⟨i, o⟩, h8, h9⟩ := List.any_eq_true.1 h5
          simp only [Bool.and_eq_true] at h9
          obtain rfl : i = id := by simpa using h9.1
          cases o with
          | box an t cs => exact ⟨an, t, cs, h8⟩
          | row _ _ _ => exact absurd h9.2 (by simp [isBx])
          | opq _ _ => exact absurd h9.2 (by simp [isBx])
          | rowA _ _ _ _ => exact absurd h9.2 (by simp [isBx])
        obtain ⟨an, t, cs, h8⟩ := hid
        obtain ⟨b1, lv, q1, q0, _⟩ := h.ob id _ (mkB_has nd h8)
        rw [q1] at h6; cases h6
        have e1 : A id = b := q0 _ rfl
        have hmem' : (id, true) ∈ l'.map kyB := by rw [hk]; exact List.mem_map.2 ⟨_, h8, rfl⟩
        obtain ⟨⟨i, o'⟩, h9, h10⟩ := List.mem_map.1 hmem'
        cases o' with
        | box an' t' cs' =>
          obtain rfl : i = id := congrArg Prod.fst h10
          obtain ⟨b2, lv2, r1, r0, _⟩ := h3.ob i _ (mkB_has nd' h9)
          have e2 : A i = b2 := r0 _ rfl
          rw [r1, ← e2, e1]
        | row _ _ _ => exact absurd (congrArg Prod.snd h10) (by simp [kyB, isBx])
        | opq _ _ => exact absurd (congrArg Prod.snd h10) (by simp [kyB, isBx])
        | rowA _ _ _ _ => exact absurd (congrArg Prod.snd h10) (by simp [kyB, isBx])
      | any => trivial
      | row _ _ => rw [hq] at h5; cases h5
      | rptr _ _ _ _ _ => rw [hq] at h5; cases h5
      | mp _ => rw [hq] at h5; cases h5
      | rsub _ _ _ _ => rw [hq] at h5; cases h5
      | nptr _ => rw [hq] at h5; cases h5
      | dr _ _ => rw [hq] at h5; cases h5
      | comp _ _ => rw [hq] at h5; cases h5
  · rcases hmine id o b h1 h2 with h4 | h4
    · obtain ⟨i', o', h5, h6⟩ := hbk b h4
      exact h.mine i' o' b h5 h6
    · exact .inr (Nat.le_trans h.kp.size h4)
def oneV : Bool → List Value → Value
  | true, [x] => x
  | _, c => .agg c.toArray
def oneU : Bool → List V → V
  | true, [u] => u
  | _, us => vagg us
def BackIt (P : Program) (gf n : Nat) (o : Bool) : Prop := ∀ (vals : List (List Value)) (M : Blks) (l : Nat) (cap : Value) (J : Nat → World → Prop) (Jx : World → Prop) (W : World), vals.length ≤ 1000000000 → (∀ c, c ∈ vals → c.length = n) →
  (∀ m W W', J m W → Kp [] W W' → J m W') → (∀ m W, J m W → Mlt W M ∧ (vcell [[vlst (vals.map fun c => c.map vval)]] 0 0).p W M cap) →
  (∀ m W, m < vals.length → J (m + 1) W → YieldAt Fence.wide 0 P l #[.int .i64 (m : Int), oneV o (vals.getD m [])] W fun e W' => (e = .returned (.bool true) ∧ J m W') ∨ (e = .returned (.bool false) ∧ Jx W')) →
  J vals.length W → CallsIn Fence.wide 0 P gf #[.func (.yield l) #[] #[], cap] W fun e W' => (∃ v, e = .returned v) ∧ (J 0 W' ∨ Jx W')

def RetL (P : Program) (rs : List ResultVar) (us : List V) (f : Nat → Slot) (own : Own) : Prop := ∃ lf lo, subF f lf ∧ subO own lo ∧ okL lf lo = true ∧ lo.all (fun p => boxB p.2) = true ∧ ResVs P (frs lf) (ows lo) rs us
def markD (D : Nat) : Deferred := { target := .collected D, args := #[] }
def FinP (P : Program) (X : Ctx) (rs : List ResultVar) (us : List V) (e : Exit) (a' : Act) (w' : World) : Prop := (e = .normal ∨ e = .ret) ∧ ∃ lf lo g', lo.all (fun p => boxB p.2) = true ∧ ResVs P (frs lf) (ows lo) rs us ∧
  (Rel X (frs lf) (ows lo) g' a' w' ∨ ∃ D, a'.defers = markD D :: X.D ∧ X.w0.heap.size ≤ D ∧ w'.heap[D]? = some (.deferred (some [])) ∧ Rel X (frs lf) (ows lo) g' { a' with defers := X.D } w')
def AWPF (P : Program) (X : Ctx) (rs : List ResultVar) (us : List V) (c : Code) (f : Nat → Slot) (own : Own) : Prop := ∀ (g : Gh) (a : Act) (w : World), Rel X f own g a w → c.wpIn (FR none) 0 P (FinP P X rs us) a w
section
variable {P : Program} {X : Ctx} {f : Nat → Slot} {own : Own} {rs : List ResultVar} {us : List V}
def RangeP (P : Program) (X : Ctx) (rs : List ResultVar) (us : List V) (b : Nat) (gop : Operand) (ps : Array Tmp) (asg bdy y : Code) (f : Nat → Slot) (own : Own) : Prop := ∀ (g : Gh) (a : Act) (w : World), Rel X f own g a w →
  (Code.block b (.rangeFunc gop ps asg bdy)).wpIn (FR none) 0 P (Exit.then (y.wpIn (FR none) 0 P (FinP P X rs us)) (FinP P X rs us)) a w
structure RB (X : Ctx) (lf : List (Nat × Slot)) (A : Nat → Nat) (g : Gh) (l0 : Bx) (a : Act) (w : World) (lB : Bx) (g' : Gh) (W : World) : Prop where
  rel : Rel X (frs lf) (ows (mkB A lB)) g' a W
  sz : w.heap.size ≤ W.heap.size
  st : ∀ b, b < w.heap.size → b ∉ blks g (mkB A l0) → (∃ o, w.heap[b]? = some o ∧ still o = true) → W.heap[b]? = w.heap[b]?
  mn : ∀ id o b, ows (mkB A lB) id = some (some o) → obk g' id o = some b → b ∈ blks g (mkB A l0) ∨ w.heap.size ≤ b
  bx : lB.all (fun p => boxB p.2) = true
section
variable {lf : List (Nat × Slot)} {A : Nat → Nat} {g g' : Gh} {l0 lB lB' : Bx} {a : Act} {w W : World}
theorem RB.grow (h : RB X lf A g l0 a w lB g' W) {W' : World} (hk : Kp [] W W') : RB X lf A g l0 a w lB g' W' :=
  ⟨h.rel.grow hk, Nat.le_trans h.sz hk.size, fun b hb hn hc => (hk.block b (Nat.lt_of_lt_of_le hb h.sz) (by simp)).trans (h.st b hb hn hc), h.mn, h.bx⟩
theorem RB.put (h : RB X lf A g l0 a w lB g' W) {lr : Nat} {o : Obj} (o' : Obj) (hl : W.heap[lr]? = some o) (ho : still o = false) (hw : w.heap.size ≤ lr) (hX : X.w0.heap.size ≤ w.heap.size) : RB X lf A g l0 a w lB g' (W.putObj lr o') :=
  ⟨h.rel.putCtl (mkB_box A h.bx) o' hl ho (Nat.le_trans hX hw), by simpa using h.sz, fun b hb hn hc => (World.putObj_heap_other (by omega)).trans (h.st b hb hn hc), h.mn, h.bx⟩
theorem RB.round (h : RB X lf A g l0 a w lB g' W) {R1 R2 : Option Nat} {D1 D2 : List Deferred} {lf1 : List (Nat × Slot)} {lo1 : List (Nat × AObj)} {g1 g2 : Gh} {a1 a3 : Act} {Wa W3 : World} {f2 : Nat → Slot} {own2 : Own} {lr : Nat} {o o' : Obj}
    (k1 : Rel (hereC X g' (mkB A lB) W R1 D1) (frs lf1) (ows lo1) g1 a1 Wa) (q4 : lo1.all (fun p => boxB p.2) = true) (q5 : ndB (lo1.map (·.1)) = true) (hl : Wa.heap[lr]? = some o) (ho : still o = false) (hw : w.heap.size ≤ lr) (hX : X.w0.heap.size ≤ w.heap.size)
    (k5 : Rel (hereC { X with R := R1, D := D1 } g1 lo1 (Wa.putObj lr o') R2 D2) f2 own2 g2 a3 W3) (hs : subO own2 (mkB A lB')) (hok' : okL [] (mkB A lB') = true) (hbx' : lB'.all (fun p => boxB p.2) = true) (nd : ndB (lB.map (·.1)) = true) (nd' : ndB (lB'.map (·.1)) = true) (hk : lB'.map kyB = lB.map kyB) (hsim : lf.all (fun p => simS lB p.2) = true) :
    ∃ g3, RB X lf A g l0 a w lB' g3 W3 := by
  have ndk : ∀ l : Bx, ndB (l.map (·.1)) = true → ndB ((mkB A l).map (·.1)) = true := fun l h => by rw [mkB_keys]; exact h
  have k2 := Rel.rebase h.rel (ndk _ nd) k1
  have k3 := k2.putCtl q4 o' hl ho (Nat.le_trans hX hw)
  obtain ⟨g3, k6⟩ := k5.less [] (mkB A lB') trivial hs hok'
  have k7 := Rel.rebase k3 q5 k6
  have kpa : Kp (blks g' (mkB A lB)) W Wa := k1.kp
  have kpb : Kp (blks g1 lo1) (Wa.putObj lr o') W3 := k6.kp
  have hm1 : ∀ b, b ∈ blks g1 lo1 → b ∈ blks g' (mkB A lB) ∨ W.heap.size ≤ b := fun b hb => by
    obtain ⟨i, p, h1, h2⟩ := blks_mem.1 hb
    exact k1.mine i p b ((ows_mem q5).2 h1) h2
  have hsz : W.heap.size ≤ W3.heap.size := Nat.le_trans kpa.size (by have := kpb.size; simpa using this)
  have hst : ∀ b, b < W.heap.size → b ∉ blks g' (mkB A lB) → (∃ o, W.heap[b]? = some o ∧ still o = true) → W3.heap[b]? = W.heap[b]? := fun b hb hn ⟨o1, hc, hc2⟩ => by
    have e1 := kpa.block b hb hn
    have hne : b ≠ lr := fun e => by
      subst e; rw [e1, hc] at hl; cases hl; rw [ho] at hc2; cases hc2
    have e2 : (Wa.putObj lr o').heap[b]? = Wa.heap[b]? := World.putObj_heap_other hne
    have e3 := kpb.block b (by have := kpa.size; simp; omega) (fun hm => by
      rcases hm1 b hm with h1 | h1
      · exact hn h1
      · omega)
    rw [e3, e2, e1]
  have hmn : ∀ id p b, ows (mkB A lB') id = some (some p) → obk g3 id p = some b → b ∈ blks g' (mkB A lB) ∨ W.heap.size ≤ b := fun id p b h1 h2 => by
    rcases k6.mine id p b h1 h2 with h3 | h3
    · exact hm1 b h3
    · have h3 : (Wa.putObj lr o').heap.size ≤ b := h3
      have := kpa.size
      simp at h3
      exact .inr (by omega)
  have hnew : ∀ b, b ∈ blks g' (mkB A lB) → b ∈ blks g (mkB A l0) ∨ w.heap.size ≤ b := fun b hb => by
    obtain ⟨i, p, h1, h2⟩ := blks_mem.1 hb
    exact h.mn i p b ((ows_mem (ndk _ nd)).2 h1) h2
  refine ⟨g3, Rel.out h.rel k7 rfl hsz k7.kp hst hmn nd nd' hk hsim, Nat.le_trans h.sz hsz, fun b hb hn hc => ?_, fun id p b h1 h2 => ?_, hbx'⟩
  · have e1 := h.st b hb hn hc
    refine (hst b (Nat.lt_of_lt_of_le hb h.sz) (fun hm => ?_) (by rw [e1]; exact hc)).trans e1
    rcases hnew b hm with h1 | h1
    · exact hn h1
    · omega
  · rcases hmn id p b h1 h2 with h3 | h3
    · exact hnew b h3
    · exact .inr (Nat.le_trans h.sz h3)
end

def recL (fn : FuncId) (tmps : Array Value) (p0 p1 : Tmp) (asg bdy : Code) (D : Nat) (st : LoopState) (pe : Option Code) : Loop := { state := st, pending := pe, fn, tmps, params := #[p0, p1], assign := asg, body := bdy, defers := D }
def JR {α σ ρ : Type} (X : Ctx) (lf : List (Nat × Slot)) (A : Nat → Nat) (g : Gh) (bx : σ → Bx) (s0 : σ) (a : Act) (w : World) (body : Nat → α → σ → Option (σ ⊕ ρ)) (fin : σ → Option ρ) (l : List α) (r : ρ) (rec : LoopState → Option Code → Loop) (m : Nat) (W : World) : Prop :=
  ∃ s g', back body fin l m s = some r ∧ RB X lf A g (bx s0) a w (bx s) g' W ∧ W.heap[w.heap.size + 1]? = some (.loop (rec .ready none)) ∧ W.heap[w.heap.size]? = some (.deferred (some []))
def JxR (P : Program) (X : Ctx) (rs : List ResultVar) (us : List V) (lf : List (Nat × Slot)) (A : Nat → Nat) (g : Gh) (l0 : Bx) (a : Act) (w : World) (rec : LoopState → Option Code → Loop) (W : World) : Prop :=
  ∃ lR g', ResVs P (frs lf) (ows (mkB A lR)) rs us ∧ ndB (lR.map (·.1)) = true ∧ RB X lf A g l0 a w lR g' W ∧ W.heap[w.heap.size + 1]? = some (.loop (rec .done (some .ret))) ∧ W.heap[w.heap.size]? = some (.deferred (some []))
section
variable {α σ ρ : Type} {b : Nat} {gop : Operand} {p0 p1 : Tmp} {asg bdy y : Code} {C : α → List V} {l : List α} {gf : Nat} {body : Nat → α → σ → Option (σ ⊕ ρ)} {fin : σ → Option ρ} {s0 : σ} {r : ρ} {o : Bool}
end
end
def repL (W : World) (M : Blks) (a : Act) : List (Nat × V) → Prop
  | [] => True
  | (t, u) :: l => u.p W M (a.tmps.getD t undef) ∧ repL W M a l
def datL (l : List (Nat × V)) : List (Nat × Slot) := l.map fun p => (p.1, .dat p.2)
abbrev yv (l : Nat) : Value := .func (.yield l) #[] #[]
end Go.Proofs.YtaolapgdgdmapaaGreatDoor
