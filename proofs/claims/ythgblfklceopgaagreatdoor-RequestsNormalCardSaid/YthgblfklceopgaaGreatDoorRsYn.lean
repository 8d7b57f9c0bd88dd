/- Plain: requests and responses are checked alike. -/
import Derived.Test.YthgblfklceopgaaGreatDoorMiYn
namespace Go.Proofs.YthgblfklceopgaaGreatDoor
set_option linter.unusedVariables false
set_option maxRecDepth 20000
theorem zw4 (r : zar) (h : rqP r) : Ok (zc4 r) fun e => zfs r = some e := by
  obtain ⟨p1, p2, p3, p4, p5, p6⟩ := h
  obtain ⟨b, q, e1, e2, e3⟩ := zum p2
  have hh := zsu r.Headers p6
  unfold zc4 zfs zcf zdt
  rw [zrt, z1y, zpb _ (by omega), zvn _ (by omega), e1, e2, zqm _ (by omega), zua _ (by omega), zr5 _ (by omega), zw6 _ (by omega), zwc, zpd _ (by omega), hh.1, hh.2]
  simp only [Option.bind_some, e3]
  cases momP r.At
  · exact zbs rfl
  · cases tokB r.Method
    · exact zbs rfl
    · cases b
      · exact zbs rfl
      · cases pthB r.Path
        · exact zbs rfl
        · cases qryB r.Query
          · exact zbs rfl
          · cases fldB r.From
            · exact zbs rfl
            · simp only [if_true, Bool.not_true, Bool.false_eq_true, if_false, ne_eq, not_true_eq_false, decide_false]
              split
              · exact zbs rfl
              · split <;> exact zbs rfl
end Go.Proofs.YthgblfklceopgaaGreatDoor
