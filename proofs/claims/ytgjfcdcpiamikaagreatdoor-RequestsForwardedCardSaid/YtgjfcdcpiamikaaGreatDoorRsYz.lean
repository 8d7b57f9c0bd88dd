/- Plain: requests and responses are checked alike. -/
import Derived.Test.YtgjfcdcpiamikaaGreatDoorMiYz
namespace Go.Proofs.YtgjfcdcpiamikaaGreatDoor
set_option linter.unusedVariables false
set_option maxRecDepth 20000
theorem request_same (r : S_api_Request) (h : rqP r) : Ok (m_message_CheckRequest r) fun e => m_gateref2_RequestFault r = some e := by
  obtain ⟨p1, p2, p3, p4, p5, p6⟩ := h
  obtain ⟨b, q, e1, e2, e3⟩ := host_same p2
  have hh := headers_eq r.Headers p6
  unfold m_message_CheckRequest m_gateref2_RequestFault message_CheckRequest_J1 gateref2_RequestFault_J1
  rw [isMoment_eq, moment_eq, isToken_eq _ (by omega), token_eq _ (by omega), e1, e2, pathFault_eq _ (by omega), pathForm_eq _ (by omega), queryFault_eq _ (by omega), queryForm_eq _ (by omega), field_eq, isField_eq _ (by omega), hh.1, hh.2]
  simp only [Option.bind_some, e3]
  cases momP r.At
  · exact ok_some rfl
  · cases tokB r.Method
    · exact ok_some rfl
    · cases b
      · exact ok_some rfl
      · cases pthB r.Path
        · exact ok_some rfl
        · cases qryB r.Query
          · exact ok_some rfl
          · cases fldB r.From
            · exact ok_some rfl
            · simp only [if_true, Bool.not_true, Bool.false_eq_true, if_false, ne_eq, not_true_eq_false, decide_false]
              split
              · exact ok_some rfl
              · split <;> exact ok_some rfl
end Go.Proofs.YtgjfcdcpiamikaaGreatDoor
