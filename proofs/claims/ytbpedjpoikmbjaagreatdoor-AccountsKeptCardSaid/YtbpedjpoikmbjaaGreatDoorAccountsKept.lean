import Derived.Test.YtbpedjpoikmbjaaGreatDoorAccountsKeptA
namespace Go.Proofs.YtbpedjpoikmbjaaGreatDoor.accountsKept
open Go.ChangeShapes Go.WideShapes Go.ChangeAt Go.RowKit
open Go.ChangeMaps (open_string shut_string)
set_option linter.unusedVariables false

set_option maxHeartbeats 8000000 in
theorem proved : Rows.AccountsKeptCardSaid :=
  Claim7.holds_tied_plain_at .later [] [.data, .pinned] true (true, "5a655e64f7ad084f48eda3b51edd0bf1a9cc3335eed36822df985d85b96c7d38") false over (fun _ h => by cases h) (by as_aux_lemma => kernel_rfl) (fun _ h => by cases h) accountsKept_row_tie rfl ⟨rfl, rfl⟩ (by as_aux_lemma => kernel_rfl) rfl
    (λf fn hf hfn=>by
      obtain rfl : f = 3 := Option.some.inj ((show Tryz.prog.funcNamed "gatewarden/gatelaw2.AccountsKept" = some 3 by as_aux_lemma => kernel_rfl).symm.trans hf) |>.symm
      obtain rfl : fn = Tryz.f3:=(Option.some.inj (Tryz.func3.symm.trans hfn)).symm
      exact⟨by as_aux_lemma=>kernel_rfl,λj t ht=>by
        rw [Tryz.params3] at ht;have hm : t ∈ [22] := by simpa using Array.mem_of_getElem? ht
        have hall : ([22].all λu=>!Tryz.prog.wantsStandIn u) = true:=by kernel_rfl
        exact (show Tryz.prog.wantsStandIn t = false by simpa using List.all_eq_true.1 hall t hm)⟩)
    (by as_aux_lemma=>kernel_rfl)
#print axioms proved
end Go.Proofs.YtbpedjpoikmbjaaGreatDoor.accountsKept
