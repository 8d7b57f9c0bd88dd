/- The library's slices.Grow of nil: a new row. No program. -/
import Derived.Test.YtmcegaabopcmfaaLibG
import Derived.Shelf.Spec.SlicesGrow
namespace Go.Proofs.Ytmcegaabopcmfaa
open Go.RowKit
set_option linter.unusedVariables false
theorem fnG_grow {P : Program} {ρ : Go.Shelf.Ren} (L : Lays8.n4 P ρ) {fn : Nat} {t e : TypeId} {size bytes : Nat} (hf : ρ.f 4 = fn) (he : ρ.t 25 = e) (hE : Elem P t e size bytes) (hby : Nat.ble bytes 140737 = true) (hok : callOK P fn = true) (n : Int) (h0 : 0 ≤ n) (h1 : n ≤ 1000000000) :
    FnG P fn [.dat vnil, .dat (vint n)] [] (.row 900 0) [(900, .row e size [])] := by
  subst hf he
  obtain ⟨i, z, e1, e2, e3, e4, e5, e6, e7⟩ := hE
  have hb := Nat.le_of_ble_eq_true hby
  obtain ⟨k, rfl⟩ := Int.eq_ofNat_of_zero_le h0
  have hk1 : k ≤ 1000000000 := by omega
  refine fnG_new (args := [vnil, vint k]) (es := []) hok e7 (by simp) fun M w vs hM hvs => ?_
  have e := Ts_vals (us := [.slice none 0 0, .int .i64 k]) hvs
  subst e
  rcases Nat.eq_zero_or_pos k with rfl | hk
  · refine (Any8.slices_Grow_room L none 0 0 0 w (Nat.le_refl _) (by omega) (by omega) (Nat.le_refl _)).mono ?_
    rintro r w' ⟨rfl, rfl⟩
    exact ⟨_, [], rfl, Kp.refl _ _, World.ownsRow_nil _ _ _ _, by simp⟩
  · refine (Any8.slices_Grow_grow L i z e2 e3 (by omega) none 0 0 k [] w (Nat.le_refl _) (by omega) ?_ (by omega) (by simp) (fun _ => rfl) (fun a h => by cases h)).mono ?_
    · rw [e5, Nat.zero_add]
      exact Nat.le_trans (Nat.mul_le_mul hk1 hb) (by decide)
    · rintro r w' ⟨rfl, rfl⟩
      refine ⟨_, [], rfl, (fun h => ⟨h.os, h.tape, h.output, h.size, h.block⟩) ((Kp.refl [] w.drew).alloc _), ⟨by simp, .inr ⟨w.heap.size, _, _, rfl, Nat.le_refl _, heap_alloc_new w.drew _, Nat.zero_le _, ?_, ?_, by simp⟩⟩, by simp⟩
      · exact grownCap_le_maxLen w _ _ _ (by unfold maxLen; omega)
      · have hg := grownCap_ge w (0 + k) 0 (ρ.t 25)
        have hz : ∀ m, (Builtin.zeroCells z.cells m).size = m * size := fun m => by simp [Builtin.zeroCells, e6]
        simp only [List.size_toArray, List.length_nil, Array.size_append, hz]
        generalize grownCap w (0 + k) 0 (ρ.t 25) = q at hg ⊢
        rw [Nat.zero_add, ← Nat.add_mul]
        congr 1
        omega
end Go.Proofs.Ytmcegaabopcmfaa
