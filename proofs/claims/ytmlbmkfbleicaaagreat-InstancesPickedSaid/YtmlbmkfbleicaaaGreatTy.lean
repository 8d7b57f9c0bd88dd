/- Facts on the types of the program: read off its tables. Printed by a program. -/
import Derived.Test.YtmlbmkfbleicaaaGreatRows
import Derived.Test.YtmlbmkfbleicaaaGreatMb
namespace Go.Proofs.YtmlbmkfbleicaaaGreat

theorem mixed : Tryz.prog.follows .mixedOrders = true := by kernel_rfl
theorem tyS3 : tyS Tryz.prog 3 = some (false, 1) := by kernel_rfl
theorem tyS5 : tyS Tryz.prog 5 = some (false, 1) := by kernel_rfl
theorem tyS9 : tyS Tryz.prog 9 = some (false, 1) := by kernel_rfl
theorem tyS22 : tyS Tryz.prog 22 = some (false, 1) := by kernel_rfl
theorem tyS25 : tyS Tryz.prog 25 = some (true, 2) := by kernel_rfl
theorem tyS33 : tyS Tryz.prog 33 = some (false, 1) := by kernel_rfl
theorem tyS55 : tyS Tryz.prog 55 = some (true, 2) := by kernel_rfl
theorem tyS61 : tyS Tryz.prog 61 = some (true, 2) := by kernel_rfl
theorem tyS73 : tyS Tryz.prog 73 = some (false, 1) := by kernel_rfl
theorem tyS83 : tyS Tryz.prog 83 = some (false, 1) := by kernel_rfl
theorem tyS84 : tyS Tryz.prog 84 = some (false, 1) := by kernel_rfl
theorem tyS86 : tyS Tryz.prog 86 = some (true, 2) := by kernel_rfl
theorem tyS126 : tyS Tryz.prog 126 = some (false, 1) := by kernel_rfl
theorem tyP25 : tyP Tryz.prog 25 = some [(0, 1), (1, 1)] := by kernel_rfl
theorem tyP55 : tyP Tryz.prog 55 = some [(0, 1), (1, 1)] := by kernel_rfl
theorem tyP61 : tyP Tryz.prog 61 = some [(0, 1), (1, 1)] := by kernel_rfl
theorem tyP86 : tyP Tryz.prog 86 = some [(0, 1), (1, 1)] := by kernel_rfl
theorem tyZ3 : tyZ Tryz.prog 3 = some [.int .i64 0] := by kernel_rfl
theorem tyZ5 : tyZ Tryz.prog 5 = some [.int .u8 0] := by kernel_rfl
theorem tyZ9 : tyZ Tryz.prog 9 = some [.string ⟨#[]⟩] := by kernel_rfl
theorem tyZ25 : tyZ Tryz.prog 25 = some [.slice none 0 0, .int .i64 0] := by kernel_rfl
theorem tyZ33 : tyZ Tryz.prog 33 = some [.int .i64 0] := by kernel_rfl
theorem tyZ55 : tyZ Tryz.prog 55 = some [.string ⟨#[]⟩, .int .i64 0] := by kernel_rfl
theorem tyZ61 : tyZ Tryz.prog 61 = some [.string ⟨#[]⟩, .int .i64 0] := by kernel_rfl
theorem tyZ73 : tyZ Tryz.prog 73 = some [.map none] := by kernel_rfl
theorem tyZ86 : tyZ Tryz.prog 86 = some [.pointer none, .slice none 0 0] := by kernel_rfl
theorem tyZ126 : tyZ Tryz.prog 126 = some [.int .u64 0] := by kernel_rfl
theorem tyF25_0 : tyF Tryz.prog 25 0 = some (0, 22) := by kernel_rfl
theorem tyF25_1 : tyF Tryz.prog 25 1 = some (1, 3) := by kernel_rfl
theorem tyF55_0 : tyF Tryz.prog 55 0 = some (0, 9) := by kernel_rfl
theorem tyF55_1 : tyF Tryz.prog 55 1 = some (1, 3) := by kernel_rfl
theorem tyF61_0 : tyF Tryz.prog 61 0 = some (0, 9) := by kernel_rfl
theorem tyF61_1 : tyF Tryz.prog 61 1 = some (1, 3) := by kernel_rfl
theorem tyF86_0 : tyF Tryz.prog 86 0 = some (0, 83) := by kernel_rfl
theorem tyF86_1 : tyF Tryz.prog 86 1 = some (1, 84) := by kernel_rfl
theorem tyE22 : tyE Tryz.prog 22 = some (3, 1) := by kernel_rfl
theorem tyL22 : Elem Tryz.prog 22 3 1 8 := Elem.mk (z := .int .i64 0) (by kernel_rfl) (by kernel_rfl) rfl (by decide)
theorem tyE26 : tyE Tryz.prog 26 = some (55, 2) := by kernel_rfl
theorem tyL26 : Elem Tryz.prog 26 55 2 24 := Elem.mk (z := .agg #[.string ⟨#[]⟩, .int .i64 0]) (by kernel_rfl) (by kernel_rfl) rfl (by decide)
theorem tyE30 : tyE Tryz.prog 30 = some (61, 2) := by kernel_rfl
theorem tyL30 : Elem Tryz.prog 30 61 2 24 := Elem.mk (z := .agg #[.string ⟨#[]⟩, .int .i64 0]) (by kernel_rfl) (by kernel_rfl) rfl (by decide)
theorem tyE32 : tyE Tryz.prog 32 = some (9, 1) := by kernel_rfl
theorem tyL32 : Elem Tryz.prog 32 9 1 16 := Elem.mk (z := .string ⟨#[]⟩) (by kernel_rfl) (by kernel_rfl) rfl (by decide)
theorem tyE71 : tyE Tryz.prog 71 = some (33, 1) := by kernel_rfl
theorem tyL71 : Elem Tryz.prog 71 33 1 8 := Elem.mk (z := .int .i64 0) (by kernel_rfl) (by kernel_rfl) rfl (by decide)
theorem tyE84 : tyE Tryz.prog 84 = some (5, 1) := by kernel_rfl
theorem tyL84 : Elem Tryz.prog 84 5 1 1 := Elem.mk (z := .int .u8 0) (by kernel_rfl) (by kernel_rfl) rfl (by decide)
theorem tyU3 : Tryz.prog.underlying 3 = some (.int .i64) := by kernel_rfl
theorem tyU4 : Tryz.prog.underlying 4 = some .bool := by kernel_rfl
theorem tyU5 : Tryz.prog.underlying 5 = some (.int .u8) := by kernel_rfl
theorem tyU9 : Tryz.prog.underlying 9 = some .string := by kernel_rfl
theorem tyU22 : Tryz.prog.underlying 22 = some (.slice 3) := by kernel_rfl
theorem tyU23 : Tryz.prog.underlying 23 = some (.pointer 25) := by kernel_rfl
theorem tyU26 : Tryz.prog.underlying 26 = some (.slice 55) := by kernel_rfl
theorem tyU30 : Tryz.prog.underlying 30 = some (.slice 61) := by kernel_rfl
theorem tyU32 : Tryz.prog.underlying 32 = some (.slice 9) := by kernel_rfl
theorem tyU33 : Tryz.prog.underlying 33 = some (.int .i64) := by kernel_rfl
theorem tyU71 : Tryz.prog.underlying 71 = some (.slice 33) := by kernel_rfl
theorem tyM73 : tyMI Tryz.prog 73 9 3 := ⟨by kernel_rfl, by kernel_rfl, by kernel_rfl, fun w => by kernel_rfl⟩
theorem tyU74 : Tryz.prog.underlying 74 = some (.int .u64) := by kernel_rfl
theorem tyU76 : Tryz.prog.underlying 76 = some (.int .u64) := by kernel_rfl
theorem tyU83 : Tryz.prog.underlying 83 = some (.pointer 86) := by kernel_rfl
theorem tyU84 : Tryz.prog.underlying 84 = some (.slice 5) := by kernel_rfl
theorem tyU103 : Tryz.prog.underlying 103 = some (.int .u32) := by kernel_rfl
theorem tyU108 : Tryz.prog.underlying 108 = some (.pointer 5) := by kernel_rfl
theorem tyU118 : Tryz.prog.underlying 118 = some (.int .i64) := by kernel_rfl
theorem tyU126 : Tryz.prog.underlying 126 = some (.int .u64) := by kernel_rfl
theorem tyU130 : Tryz.prog.underlying 130 = some (.pointer 3) := by kernel_rfl
end Go.Proofs.YtmlbmkfbleicaaaGreat
