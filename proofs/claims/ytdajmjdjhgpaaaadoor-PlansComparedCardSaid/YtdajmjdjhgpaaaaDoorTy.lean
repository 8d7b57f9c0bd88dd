/- Facts on the types of the program: read off its tables. Printed by a program. -/
import Derived.Test.YtdajmjdjhgpaaaaDoorRows
import Derived.Test.YtdajmjdjhgpaaaaDoorMb
namespace Go.Proofs.YtdajmjdjhgpaaaaDoor

theorem mixed : Tryd.prog.follows .mixedOrders = true := by kernel_rfl
theorem tyS3 : tyS Tryd.prog 3 = some (false, 1) := by kernel_rfl
theorem tyS9 : tyS Tryd.prog 9 = some (false, 1) := by kernel_rfl
theorem tyS22 : tyS Tryd.prog 22 = some (false, 1) := by kernel_rfl
theorem tyS26 : tyS Tryd.prog 26 = some (false, 1) := by kernel_rfl
theorem tyS27 : tyS Tryd.prog 27 = some (false, 1) := by kernel_rfl
theorem tyS29 : tyS Tryd.prog 29 = some (true, 2) := by kernel_rfl
theorem tyS33 : tyS Tryd.prog 33 = some (false, 1) := by kernel_rfl
theorem tyS35 : tyS Tryd.prog 35 = some (true, 8) := by kernel_rfl
theorem tyS36 : tyS Tryd.prog 36 = some (false, 1) := by kernel_rfl
theorem tyS62 : tyS Tryd.prog 62 = some (true, 2) := by kernel_rfl
theorem tyS63 : tyS Tryd.prog 63 = some (false, 1) := by kernel_rfl
theorem tyS66 : tyS Tryd.prog 66 = some (true, 2) := by kernel_rfl
theorem tyP25 : tyP Tryd.prog 25 = some [(0, 1), (1, 1)] := by kernel_rfl
theorem tyP29 : tyP Tryd.prog 29 = some [(0, 1), (1, 1)] := by kernel_rfl
theorem tyP35 : tyP Tryd.prog 35 = some [(0, 1), (1, 1), (2, 1), (3, 1), (4, 1), (5, 1), (6, 1), (7, 1)] := by kernel_rfl
theorem tyP62 : tyP Tryd.prog 62 = some [(0, 1), (1, 1)] := by kernel_rfl
theorem tyP66 : tyP Tryd.prog 66 = some [(0, 1), (1, 1)] := by kernel_rfl
theorem tyZ3 : tyZ Tryd.prog 3 = some [.int .i64 0] := by kernel_rfl
theorem tyZ9 : tyZ Tryd.prog 9 = some [.string ⟨#[]⟩] := by kernel_rfl
theorem tyZ25 : tyZ Tryd.prog 25 = some [.slice none 0 0, .int .i64 0] := by kernel_rfl
theorem tyZ29 : tyZ Tryd.prog 29 = some [.slice none 0 0, .slice none 0 0] := by kernel_rfl
theorem tyZ35 : tyZ Tryd.prog 35 = some [.string ⟨#[]⟩, .string ⟨#[]⟩, .int .i64 0, .int .i64 0, .slice none 0 0, .int .i64 0, .int .i64 0, .bool false] := by kernel_rfl
theorem tyZ62 : tyZ Tryd.prog 62 = some [.int .i64 0, .int .i64 0] := by kernel_rfl
theorem tyZ66 : tyZ Tryd.prog 66 = some [.string ⟨#[]⟩, .slice none 0 0] := by kernel_rfl
theorem tyF25_0 : tyF Tryd.prog 25 0 = some (0, 22) := by kernel_rfl
theorem tyF25_1 : tyF Tryd.prog 25 1 = some (1, 3) := by kernel_rfl
theorem tyF29_0 : tyF Tryd.prog 29 0 = some (0, 26) := by kernel_rfl
theorem tyF29_1 : tyF Tryd.prog 29 1 = some (1, 27) := by kernel_rfl
theorem tyF35_0 : tyF Tryd.prog 35 0 = some (0, 9) := by kernel_rfl
theorem tyF35_1 : tyF Tryd.prog 35 1 = some (1, 9) := by kernel_rfl
theorem tyF35_2 : tyF Tryd.prog 35 2 = some (2, 3) := by kernel_rfl
theorem tyF35_3 : tyF Tryd.prog 35 3 = some (3, 3) := by kernel_rfl
theorem tyF35_4 : tyF Tryd.prog 35 4 = some (4, 33) := by kernel_rfl
theorem tyF35_5 : tyF Tryd.prog 35 5 = some (5, 3) := by kernel_rfl
theorem tyF35_6 : tyF Tryd.prog 35 6 = some (6, 3) := by kernel_rfl
theorem tyF62_0 : tyF Tryd.prog 62 0 = some (0, 3) := by kernel_rfl
theorem tyF62_1 : tyF Tryd.prog 62 1 = some (1, 3) := by kernel_rfl
theorem tyF66_0 : tyF Tryd.prog 66 0 = some (0, 9) := by kernel_rfl
theorem tyF66_1 : tyF Tryd.prog 66 1 = some (1, 63) := by kernel_rfl
theorem tyE22 : tyE Tryd.prog 22 = some (3, 1) := by kernel_rfl
theorem tyL22 : Elem Tryd.prog 22 3 1 8 := Elem.mk (z := .int .i64 0) (by kernel_rfl) (by kernel_rfl) rfl (by decide)
theorem tyE26 : tyE Tryd.prog 26 = some (66, 2) := by kernel_rfl
theorem tyL26 : Elem Tryd.prog 26 66 2 40 := Elem.mk (z := .agg #[.string ⟨#[]⟩, .slice none 0 0]) (by kernel_rfl) (by kernel_rfl) rfl (by decide)
theorem tyE27 : tyE Tryd.prog 27 = some (35, 8) := by kernel_rfl
theorem tyL27 : Elem Tryd.prog 27 35 8 96 := Elem.mk (z := .agg #[.string ⟨#[]⟩, .string ⟨#[]⟩, .int .i64 0, .int .i64 0, .slice none 0 0, .int .i64 0, .int .i64 0, .bool false]) (by kernel_rfl) (by kernel_rfl) rfl (by decide)
theorem tyE33 : tyE Tryd.prog 33 = some (62, 2) := by kernel_rfl
theorem tyL33 : Elem Tryd.prog 33 62 2 16 := Elem.mk (z := .agg #[.int .i64 0, .int .i64 0]) (by kernel_rfl) (by kernel_rfl) rfl (by decide)
theorem tyE63 : tyE Tryd.prog 63 = some (9, 1) := by kernel_rfl
theorem tyL63 : Elem Tryd.prog 63 9 1 16 := Elem.mk (z := .string ⟨#[]⟩) (by kernel_rfl) (by kernel_rfl) rfl (by decide)
theorem tyE78 : tyE Tryd.prog 78 = some (36, 1) := by kernel_rfl
theorem tyL78 : Elem Tryd.prog 78 36 1 8 := Elem.mk (z := .int .i64 0) (by kernel_rfl) (by kernel_rfl) rfl (by decide)
theorem tyU3 : Tryd.prog.underlying 3 = some (.int .i64) := by kernel_rfl
theorem tyU9 : Tryd.prog.underlying 9 = some .string := by kernel_rfl
theorem tyU22 : Tryd.prog.underlying 22 = some (.slice 3) := by kernel_rfl
theorem tyU26 : Tryd.prog.underlying 26 = some (.slice 66) := by kernel_rfl
theorem tyU27 : Tryd.prog.underlying 27 = some (.slice 35) := by kernel_rfl
theorem tyU33 : Tryd.prog.underlying 33 = some (.slice 62) := by kernel_rfl
theorem tyU63 : Tryd.prog.underlying 63 = some (.slice 9) := by kernel_rfl
theorem tyU78 : Tryd.prog.underlying 78 = some (.slice 36) := by kernel_rfl
theorem tyU96 : Tryd.prog.underlying 96 = some (.int .u64) := by kernel_rfl
end Go.Proofs.YtdajmjdjhgpaaaaDoor
