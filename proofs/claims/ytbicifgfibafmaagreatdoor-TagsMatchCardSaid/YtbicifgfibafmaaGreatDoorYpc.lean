/- The cells of values. Printed by a program. -/
import Derived.Test.YtbicifgfibafmaaGreatDoorYpm
import Derived.Test.YtbicifgfibafmaaGreatDoorTy
import Derived.Test.YtbicifgfibafmaaGreatDoorShelf
import Derived.Test.YtbicifgfibafmaaGreatDoorLibK
import Derived.Test.YtbicifgfibafmaaGreatDoorDr
import Derived.Test.YtbicifgfibafmaaGreatDoorErr
import Derived.Test.YtbicifgfibafmaaGreatDoorArr
namespace Go.Proofs.YtbicifgfibafmaaGreatDoor
open Go.RowKit
set_option linter.unusedVariables false
set_option maxRecDepth 20000
abbrev C_int (x : Int) : List V := [vint x]
abbrev C_gatemake_Stream (x : S_gatemake_Stream) : List V := [vlst (List.map C_int x.L), vint x.at_]
abbrev C_string (x : Bs) : List V := [vstr x]
abbrev C_api_Header (x : S_api_Header) : List V := [vstr x.Name, vstr x.Value]
abbrev C_api_Request (x : S_api_Request) : List V := [vint x.At, vstr x.Method, vstr x.Host, vstr x.Path, vstr x.Query, vstr x.From, vlst (List.map C_api_Header x.Headers), vstr x.Body]
abbrev C_api_Response (x : S_api_Response) : List V := [vint x.Status, vlst (List.map C_api_Header x.Headers), vstr x.Body]
abbrev C_uint8 (x : Int) : List V := [vval (.int .u8 x)]
abbrev C_api_Errno (x : Int) : List V := [vint x]
abbrev C_api_Control (x : S_api_Control) : List V := [vbool x.NoStore, vbool x.NoCache, vbool x.Private, vbool x.Public, vbool x.Must, vbool x.Only, vint x.MaxAge, vint x.Shared, vint x.Stale, vint x.OnError, vint x.MaxStale, vint x.MinFresh]
theorem gt_S_api_Control_bool_at {c : S_api_Control} {x : Int} (h : ck_S_api_Control_bool x = true) : (List.map Slot.dat (C_api_Control c))[x.toNat]? = some (.dat (vbool (gt_S_api_Control_bool c x))) := by
  unfold ck_S_api_Control_bool at h
  simp only [Bool.or_eq_true, decide_eq_true_eq] at h
  rcases h with ((((rfl | rfl) | rfl) | rfl) | rfl) | rfl <;> rfl
theorem st_S_api_Control_bool_at {c c2 : S_api_Control} {x : Int} {y : Bool} (h : ck_S_api_Control_bool x = true) (hc : some (st_S_api_Control_bool c x y) = some c2) : x.toNat < (List.map Slot.dat (C_api_Control c)).length ∧ (List.map Slot.dat (C_api_Control c)).set x.toNat (.dat (vbool y)) = List.map Slot.dat (C_api_Control c2) := by
  cases hc
  unfold ck_S_api_Control_bool at h
  simp only [Bool.or_eq_true, decide_eq_true_eq] at h
  rcases h with ((((rfl | rfl) | rfl) | rfl) | rfl) | rfl <;> exact ⟨of_decide_eq_true rfl, rfl⟩
theorem gt_S_api_Control_int_at {c : S_api_Control} {x : Int} (h : ck_S_api_Control_int x = true) : (List.map Slot.dat (C_api_Control c))[x.toNat]? = some (.dat (vint (gt_S_api_Control_int c x))) := by
  unfold ck_S_api_Control_int at h
  simp only [Bool.or_eq_true, decide_eq_true_eq] at h
  rcases h with ((((rfl | rfl) | rfl) | rfl) | rfl) | rfl <;> rfl
theorem st_S_api_Control_int_at {c c2 : S_api_Control} {x : Int} {y : Int} (h : ck_S_api_Control_int x = true) (hc : some (st_S_api_Control_int c x y) = some c2) : x.toNat < (List.map Slot.dat (C_api_Control c)).length ∧ (List.map Slot.dat (C_api_Control c)).set x.toNat (.dat (vint y)) = List.map Slot.dat (C_api_Control c2) := by
  cases hc
  unfold ck_S_api_Control_int at h
  simp only [Bool.or_eq_true, decide_eq_true_eq] at h
  rcases h with ((((rfl | rfl) | rfl) | rfl) | rfl) | rfl <;> exact ⟨of_decide_eq_true rfl, rfl⟩
end Go.Proofs.YtbicifgfibafmaaGreatDoor
