/- The abstract machine: elements of a row that came by pointer, typed; pointers as data. -/
import Derived.Test.YtmcegaabopcmfaaAbsZ
namespace Go.Proofs.Ytmcegaabopcmfaa
open Go.RowKit
set_option linter.unusedVariables false
/-- a pointer that stays, or nil -/
def vopt {α : Type} (C : α → List V) : Option α → V
  | none => vval (.pointer none)
  | some x => vcell [C x] 0 0
def subW (f : Nat → Slot) : List (Nat × Slot) → Prop
  | [] => True
  | (a, s) :: l => (f a = s ∨ (f a = .dat vnil ∧ s = .dat (vlst []))) ∧ subW f l
theorem subW_at {f : Nat → Slot} : ∀ {l : List (Nat × Slot)}, subW f l → ∀ a s, (a, s) ∈ l → f a = s ∨ (f a = .dat vnil ∧ s = .dat (vlst []))
  | [], _, a, s, h => by cases h
  | (b, r) :: l, h, a, s, hm => by
    rcases List.mem_cons.1 hm with e | hm
    · cases e; exact h.1
    · exact subW_at h.2 a s hm
theorem subF_upl {f : Nat → Slot} : ∀ {l : List (Nat × Slot)}, (keys l).Nodup → ∀ (m : List (Nat × Slot)), (∀ a s, (a, s) ∈ m → (a, s) ∈ l) → subF (upl f l) m
  | l, nd, [], _ => trivial
  | l, nd, (a, s) :: m, h => ⟨by
      rcases upl_cases f l a with ⟨h1, _⟩ | ⟨q, h1, h2⟩
      · exact absurd (List.mem_map.2 ⟨(a, s), h a s (by simp), rfl⟩) h1
      · rw [h2]; exact (nodup_unique (k := a) nd h1 (h a s (by simp))).symm, subF_upl nd m fun a s hm => h a s (List.mem_cons_of_mem _ hm)⟩
theorem awp_joinW {P : Program} {X : Ctx} {Q : Exit → (Nat → Slot) → Own → Prop} {f : Nat → Slot} {own : Own} {ι : Type} {x y : Code} (F : ι → List (Nat × Slot)) (O : ι → List (Nat × AObj)) (I : ι → Prop) (hok : ∀ i, okL (F i) (O i) = true) (hnd : ∀ i, ndB (keys (F i)) = true)
    (hx : AWP P X x (fun e f own => match e with | .normal => ∃ i, I i ∧ subW f (F i) ∧ subO own (O i) | e => Q e f own) f own)
    (hy : ∀ i, I i → AWP P X y Q (frs (F i)) (ows (O i))) : AWP P X (.seq x y) Q f own := by
  intro g a w hr
  refine wp_seq (wp_mono (hx g a w hr) ?_)
  rintro e a' w' ⟨f', own', g', h1, h2⟩
  cases e with
  | normal =>
    obtain ⟨i, hi, hs, ho⟩ := h2
    have h3 : Rel X (upl f' (F i)) own' g' a' w' := by
      refine ⟨h1.kp, h1.m0, h1.n, h1.df, fun t => ?_, h1.ob, h1.sep, h1.mine, h1.fresh, h1.top⟩
      rcases upl_cases f' (F i) t with ⟨_, q2⟩ | ⟨s, q1, q2⟩
      · rw [q2]; exact h1.fr t
      · rw [q2]
        rcases subW_at hs t s q1 with q3 | ⟨q3, q4⟩
        · rw [← q3]; exact h1.fr t
        · have := h1.fr t
          rw [q3] at this
          rw [q4]
          exact wk_nil _ _ _ this
    obtain ⟨g'', h4⟩ := h3.less (F i) (O i) (subF_upl (ndB_nodup (hnd i)) _ fun a s h => h) ho (hok i)
    exact hy i hi g'' a' w' h4
  | exit id => exact ⟨f', own', g', h1, h2⟩
  | goto l => exact ⟨f', own', g', h1, h2⟩
  | ret => exact ⟨f', own', g', h1, h2⟩
  | panic ch => exact ⟨f', own', g', h1, h2⟩
  | outgrown => exact ⟨f', own', g', h1, h2⟩
section
variable {P : Program} {f : Nat → Slot} {dst : Option Tmp} {ty : TypeId} {pos : String} {af : Array Edge} {gd : Option (Nat × Bool)}
variable {α : Type} {C : α → List V} {xs : List α}
theorem set_same {k : Nat} {x : α} (h : xs[k]? = some x) : xs.set k x = xs := by
  apply List.ext_getElem?
  intro i
  by_cases hi : k = i
  · subst hi; rw [List.getElem?_set_self (lt_some h), h]
  · rw [List.getElem?_set_ne hi]
theorem e_load1 {vv : Value} {t e : TypeId} {n m size : Nat} {p : Operand} {id k c : Nat} {y : α} {u : V} (ht : tyS P t = some (false, n)) (hp : evS f p = .rptr id m size k c) (hm : m = xs.length) (he : xs[k]? = some y) (hu : (C y)[c]? = some u) :
    Stp P ⟨dst, .load t p, ty, pos, af, gd⟩ f ⟨false, [(id, some (some (.rowA vv e size (xs.map C))))], [], .dat u⟩ :=
  stp_loadB1 ht hp (by rw [List.length_map]; exact hm) (map_at he) hu
theorem e_store {vv : Value} {t e : TypeId} {b0 : Bool} {m size : Nat} {p x : Operand} {id k c : Nat} {y : α} (y' : α) {v : V} (ht : tyS P t = some (b0, 1)) (hp : evS f p = .rptr id m size k c) (hx : evS f x = .dat v) (h1 : v.one = true) (hm : m = xs.length) (he : xs[k]? = some y) (hc' : Nat.blt c (C y).length = true) (hy : (C y).set c v = C y') :
    Stp P ⟨dst, .store t p x, ty, pos, af, gd⟩ f ⟨false, [(id, some (some (.rowA vv e size (xs.map C))))], [(id, some (some (.rowA vv e size ((xs.set k y').map C))))], .any⟩ := by
  have h := stp_storeB (vv := vv) (dst := dst) (ty := ty) (pos := pos) (af := af) (gd := gd) (e := e) ht hp hx h1 (by rw [List.length_map]; exact hm) (map_at (C := C) he) hc'
  rw [hy, ← List.map_set] at h
  exact h
theorem e_store2 {vv : Value} {t e : TypeId} {b0 : Bool} {m size : Nat} {p x : Operand} {id k c : Nat} {y z : α} (y' : α) {v : V} (ht : tyS P t = some (b0, 1)) (hp : evS f p = .rptr id m size k c) (hx : evS f x = .dat v) (h1 : v.one = true) (hm : m = xs.length) (he : xs[k]? = some z) (hc' : Nat.blt c (C y).length = true) (hy : (C y).set c v = C y') :
    Stp P ⟨dst, .store t p x, ty, pos, af, gd⟩ f ⟨false, [(id, some (some (.rowA vv e size ((xs.set k y).map C))))], [(id, some (some (.rowA vv e size ((xs.set k y').map C))))], .any⟩ := by
  have h := e_store (vv := vv) (xs := xs.set k y) (dst := dst) (ty := ty) (pos := pos) (af := af) (gd := gd) (e := e) y' ht hp hx h1 (by rw [List.length_set]; exact hm) (set_at he) hc' hy
  rw [List.set_set] at h
  exact h
theorem stp_neqO {t e t' : TypeId} {x : Operand} {o : Option α} (ht : P.underlying t = some (.pointer e)) (hx : evS f x = .dat (vopt C o)) : Stp P ⟨dst, .binOp .neq t x (.const (.pointer none)) t', ty, pos, af, gd⟩ f ⟨false, [], [], .dat (vbool o.isSome)⟩ := by
  cases o with
  | none => exact stp_pneqN ht hx
  | some y => exact stp_pneqC ht hx
theorem stp_nilO {x : Operand} {o : Option α} {y : α} (ho : o = some y) (hx : evS f x = .dat (vopt C o)) : Stp P ⟨dst, .nilCheck x, ty, pos, af, gd⟩ f ⟨false, [], [], .dat (vcell [C y] 0 0)⟩ := by
  subst ho
  exact stp_nilE hx
end
end Go.Proofs.Ytmcegaabopcmfaa
