/- Proved: the statement BillsWrittenCardSaid: for every list of numbers the law gatelaw2 BillsWritten returns true and its argument reads as it did; the listed package-level variables are tied to the program's text. No other condition. The frame is the kit's skeleton; the walk is law_BillsWritten. -/
import Derived.Test.YtnnfdgngnoamoaaGreatDoorBillsWrittenA
namespace Go.Proofs.YtnnfdgngnoamoaaGreatDoor.billsWritten
open Go.ChangeShapes Go.WideShapes Go.ChangeAt Go.RowKit
open Go.ChangeMaps (open_string shut_string)
set_option linter.unusedVariables false

set_option maxHeartbeats 8000000 in
theorem proved : Rows.BillsWrittenCardSaid :=
  Claim7.holds_tied_plain_at .later [] [.data, .pinned] true (true, "c68b99175fb353fb5dfeeb5086f766735eab4b054eff7718f91bebe60b9ee725") false over (fun _ h => by cases h) (by as_aux_lemma => kernel_rfl) (fun _ h => by cases h) billsWritten_row_tie rfl ⟨rfl, rfl⟩ (by as_aux_lemma => kernel_rfl) rfl
    (fun f fn hf hfn => by
      obtain rfl : f = 3 := Option.some.inj ((show Tryz.prog.funcNamed "gatewarden/gatelaw2.BillsWritten" = some 3 by as_aux_lemma => kernel_rfl).symm.trans hf) |>.symm
      obtain rfl : fn = Tryz.f3 := (Option.some.inj (Tryz.func3.symm.trans hfn)).symm
      exact ⟨by as_aux_lemma => kernel_rfl, fun j t ht => by
        rw [Tryz.params3] at ht
        have hm : t ∈ [22] := by simpa using Array.mem_of_getElem? ht
        have hall : ([22].all fun u => !Tryz.prog.wantsStandIn u) = true := by kernel_rfl
        exact (show Tryz.prog.wantsStandIn t = false by simpa using List.all_eq_true.1 hall t hm)⟩)
    (by as_aux_lemma => kernel_rfl)
#print axioms proved
end Go.Proofs.YtnnfdgngnoamoaaGreatDoor.billsWritten
