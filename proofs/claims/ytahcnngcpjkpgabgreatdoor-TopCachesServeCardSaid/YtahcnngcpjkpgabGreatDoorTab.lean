/- The table math/bits.deBruijn64tab, out of the list that a card lays. -/
import Derived.Test.YtahcnngcpjkpgabGreatDoorLi
import Derived.LaidSub
import Derived.OpenShut
import Derived.MakeChecks
import Derived.ChangeArms
import Derived.LaidMore
namespace Go.Proofs.YtahcnngcpjkpgabGreatDoor
set_option linter.unusedVariables false
theorem w1e {l : List (String × DataW Unit)} (hl : (l.filter fun x => x.1 == "math/bits.deBruijn64tab") = [("math/bits.deBruijn64tab", Rows.laid_math_bits_deBruijn64tab)]) {W : World} (h : laidMetH Tryz.prog l W) : TabAt 10 Lib.deBruijn64tab W := by
  have h := h.filter (fun x => x.1 == "math/bits.deBruijn64tab")
  rw [hl, MakeChecks.laidMetH_plain _ _ _ (by kernel_rfl)] at h
  obtain ⟨ps, ⟨g0, t0, cs0, f0, p0, q0, hg0, ht0, hv0, hd0, _, _⟩, _, _⟩ := h
  obtain rfl := Option.some.inj ((show Tryz.prog.globalNamed "math/bits.deBruijn64tab" = some 10 by kernel_rfl).symm.trans hg0)
  obtain rfl := Option.some.inj ((show (Tryz.prog.globals[10]?).map (·.type) = some 320 by kernel_rfl).symm.trans ht0)
  obtain ⟨xs, m1, rfl, hx1, hlen, hn, hel⟩ := DataW.trod_array Tryz.underlying320 hd0
  have c1 : Tryz.prog.cellsOf 5 = 1 := by kernel_rfl
  have hL : (Rows.laid_math_bits_deBruijn64tab : DataW Unit) = .agg (Lib.deBruijn64tab.map fun n : Nat => .lit (.int .u8 (n : Int))) := by kernel_rfl
  rw [hL] at hx1
  simp only [Prod.mk.injEq, DataW.agg.injEq] at hx1
  intro j hj
  have hj : j < 64 := hj
  have h0 := hel j hj
  obtain ⟨x, hx⟩ : ∃ x, xs[j]? = some x := ⟨_, List.getElem?_eq_getElem (by omega)⟩
  rw [hx, c1, Nat.mul_one] at h0
  obtain ⟨k, e1, e2, _⟩ := DataW.trod_int Tryz.underlying5 h0
  have hA : (Lib.deBruijn64tab.map fun n : Nat => (DataW.lit (.int .u8 (n : Int)) : DataW Unit))[j]? = some (.lit (.int .u8 k)) := by
    rw [hx1.1, List.getElem?_map, hx, e2]; rfl
  have hj2 : j < Lib.deBruijn64tab.length := hj
  rw [List.getElem?_map, List.getElem?_eq_getElem hj2] at hA
  have hk : k = ((Lib.deBruijn64tab.getD j 0 : Nat) : Int) := by
    rw [List.getD_eq_getElem?_getD, List.getElem?_eq_getElem hj2]
    simp at hA
    simpa using hA.symm
  have hc := World.var?_cell hg0 hv0 j
  have hcj : cs0[j]? = some (.int .u8 k) := by
    have h1 : cs0.toList[j]? = some (.int .u8 k) := by
      have h2 : ((cs0.toList.drop j).take 1)[0]? = some (.int .u8 k) := by rw [e1]; rfl
      rw [List.getElem?_take] at h2
      simpa using h2
    simpa using h1
  rw [hc, hcj, hk]
end Go.Proofs.YtahcnngcpjkpgabGreatDoor
