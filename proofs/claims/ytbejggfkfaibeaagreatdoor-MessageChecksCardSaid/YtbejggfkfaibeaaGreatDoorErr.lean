/- Errors as numbers: 0 is none, 1 to 4 those of the inner package strconv, all others some error. -/
import Derived.Test.YtbejggfkfaibeaaGreatDoorLibK
import Derived.Test.YtbejggfkfaibeaaGreatDoorTy
import Derived.Test.YtbejggfkfaibeaaGreatDoorShelf
import Derived.Test.YtbejggfkfaibeaaGreatDoorArr
import Derived.Shelf.Strconv.ToErrorRange
import Derived.Shelf.Strconv.ToError
namespace Go.Proofs.YtbejggfkfaibeaaGreatDoor
open Go.RowKit Go.Shelf
set_option linter.unusedVariables false
def vifc : V := ⟨fun _ _ v => ∃ t u, v = .iface t u, true, fun _ h => h, fun _ _ _ v ⟨t, u, h⟩ => by rw [h]; rfl⟩
def verr : Int → V
  | .ofNat 0 => vval .nilIface
  | .ofNat 1 => vval (.iface 218 (.int .i64 1))
  | .ofNat 2 => vval (.iface 218 (.int .i64 2))
  | .ofNat 3 => vval (.iface 218 (.int .i64 3))
  | .ofNat 4 => vval (.iface 218 (.int .i64 4))
  | _ => vifc
theorem verr_cases {n : Int} {w : World} {M : Blks} {v : Value} (h : (verr n).p w M v) : (n = 0 ∧ v = .nilIface) ∨ (n ≠ 0 ∧ ∃ t u, v = .iface t u) := by
  unfold verr at h
  split at h
  · exact .inl ⟨rfl, h⟩
  · exact .inr ⟨by decide, _, _, h⟩
  · exact .inr ⟨by decide, _, _, h⟩
  · exact .inr ⟨by decide, _, _, h⟩
  · exact .inr ⟨by decide, _, _, h⟩
  · rename_i h0 _ _ _ _
    exact .inr ⟨fun h => h0 h, h⟩
section
variable {f : Nat → Slot} {dst : Option Tmp} {ty : TypeId} {pos : String} {af : Array Edge} {gd : Option (Nat × Bool)}
theorem stp_mkErr {P : Program} {t : TypeId} {k : IntKind} {x : Operand} {n : Int} (ht : P.underlying t = some (.int k)) (hx : evS f x = .dat (vval (.int .i64 n))) : Stp P ⟨dst, .makeInterface t x, ty, pos, af, gd⟩ f ⟨false, [], [], .dat (vval (.iface t (.int .i64 n)))⟩ :=
  stp_val fun X own g a w h => by
    have h1 := val_of (h x (by simp [Op.operands])) hx
    refine ⟨.iface t (.int .i64 n), ?_, rfl⟩
    simp only [execOp, h1, Instr.makeInterface, Sem.run_bind, run_underlying ht, Result.andThen_ok, Sem.run_pure]
theorem stp_errneq {P : Program} {t t' : TypeId} {x : Operand} {n : Int} (ht : P.underlying t = some (.interface (P.methodsAt t))) (hx : evS f x = .dat (verr n)) : Stp P ⟨dst, .binOp .neq t x (.const .nilIface) t', ty, pos, af, gd⟩ f ⟨false, [], [], .dat (vbool (decide (n ≠ 0)))⟩ :=
  stp_val fun X own g a w h => by
    have h1 := h x (by simp [Op.operands])
    rw [hx] at h1
    have hc : a.eval (.const .nilIface) = .nilIface := rfl
    rcases verr_cases h1 with ⟨rfl, h2⟩ | ⟨hn, tt, u, h2⟩
    · refine ⟨.bool false, ?_, rfl⟩
      simp only [execOp, h2, hc, Sem.run_bind, eqGuard_nil_constR, Sem.run_pure, Result.andThen_ok, run_neq_nil_nil w t ht]
    · refine ⟨.bool true, ?_, ?_⟩
      · simp only [execOp, h2, hc, Sem.run_bind, eqGuard_at_iface, Sem.run_pure, Result.andThen_ok, run_neq_held_nil w t tt u ht]
      · show Value.bool true = _
        rw [decide_eq_true hn]
theorem stp_erreql {P : Program} {t t' : TypeId} {x : Operand} {n : Int} (ht : P.underlying t = some (.interface (P.methodsAt t))) (hx : evS f x = .dat (verr n)) : Stp P ⟨dst, .binOp .eql t x (.const .nilIface) t', ty, pos, af, gd⟩ f ⟨false, [], [], .dat (vbool (decide (n = 0)))⟩ :=
  stp_val fun X own g a w h => by
    have h1 := h x (by simp [Op.operands])
    rw [hx] at h1
    have hc : a.eval (.const .nilIface) = .nilIface := rfl
    rcases verr_cases h1 with ⟨rfl, h2⟩ | ⟨hn, tt, u, h2⟩
    · refine ⟨.bool true, ?_, rfl⟩
      simp only [execOp, h2, hc, Sem.run_bind, eqGuard_nil_constR, Sem.run_pure, Result.andThen_ok, run_eql_nil_nil w t ht]
    · refine ⟨.bool false, ?_, ?_⟩
      · simp only [execOp, h2, hc, Sem.run_bind, eqGuard_at_iface, Sem.run_pure, Result.andThen_ok, run_eql_held_nil w t tt u ht]
      · show Value.bool false = _
        rw [decide_eq_false hn]
end
end Go.Proofs.YtbejggfkfaibeaaGreatDoor
