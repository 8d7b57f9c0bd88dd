/- Facts on the types of the program: read off its tables. Printed by a program. -/
import Derived.Test.YtpeeeanmfmhlgaaGreatDoorRows
import Derived.Test.YtpeeeanmfmhlgaaGreatDoorMb
namespace Go.Proofs.YtpeeeanmfmhlgaaGreatDoor

theorem mixed : Tryz.prog.follows .mixedOrders = true := by kernel_rfl
theorem tyS3 : tyS Tryz.prog 3 = some (false, 1) := by kernel_rfl
theorem tyS5 : tyS Tryz.prog 5 = some (false, 1) := by kernel_rfl
theorem tyS9 : tyS Tryz.prog 9 = some (false, 1) := by kernel_rfl
theorem tyS22 : tyS Tryz.prog 22 = some (false, 1) := by kernel_rfl
theorem tyS25 : tyS Tryz.prog 25 = some (true, 2) := by kernel_rfl
theorem tyS26 : tyS Tryz.prog 26 = some (false, 1) := by kernel_rfl
theorem tyS28 : tyS Tryz.prog 28 = some (false, 1) := by kernel_rfl
theorem tyS42 : tyS Tryz.prog 42 = some (true, 8) := by kernel_rfl
theorem tyS48 : tyS Tryz.prog 48 = some (true, 2) := by kernel_rfl
theorem tyS68 : tyS Tryz.prog 68 = some (true, 4) := by kernel_rfl
theorem tyS82 : tyS Tryz.prog 82 = some (false, 1) := by kernel_rfl
theorem tyS87 : tyS Tryz.prog 87 = some (false, 1) := by kernel_rfl
theorem tyS89 : tyS Tryz.prog 89 = some (true, 2) := by kernel_rfl
theorem tyS117 : tyS Tryz.prog 117 = some (false, 1) := by kernel_rfl
theorem tyS134 : tyS Tryz.prog 134 = some (true, 2) := by kernel_rfl
theorem tyS135 : tyS Tryz.prog 135 = some (true, 32) := by kernel_rfl
theorem tyP25 : tyP Tryz.prog 25 = some [(0, 1), (1, 1)] := by kernel_rfl
theorem tyP42 : tyP Tryz.prog 42 = some [(0, 1), (1, 1), (2, 1), (3, 1), (4, 1), (5, 1), (6, 1), (7, 1)] := by kernel_rfl
theorem tyP48 : tyP Tryz.prog 48 = some [(0, 1), (1, 1)] := by kernel_rfl
theorem tyP89 : tyP Tryz.prog 89 = some [(0, 1), (1, 1)] := by kernel_rfl
theorem tyP134 : tyP Tryz.prog 134 = some [(0, 1), (1, 1)] := by kernel_rfl
theorem tyZ3 : tyZ Tryz.prog 3 = some [.int .i64 0] := by kernel_rfl
theorem tyZ5 : tyZ Tryz.prog 5 = some [.int .u8 0] := by kernel_rfl
theorem tyZ9 : tyZ Tryz.prog 9 = some [.string ⟨#[]⟩] := by kernel_rfl
theorem tyZ25 : tyZ Tryz.prog 25 = some [.slice none 0 0, .int .i64 0] := by kernel_rfl
theorem tyZ26 : tyZ Tryz.prog 26 = some [.slice none 0 0] := by kernel_rfl
theorem tyZ28 : tyZ Tryz.prog 28 = some [.int .i64 0] := by kernel_rfl
theorem tyZ42 : tyZ Tryz.prog 42 = some [.string ⟨#[]⟩, .string ⟨#[]⟩, .string ⟨#[]⟩, .string ⟨#[]⟩, .slice none 0 0, .slice none 0 0, .int .i64 0, .int .i64 0] := by kernel_rfl
theorem tyZ48 : tyZ Tryz.prog 48 = some [.int .i64 0, .int .i64 0] := by kernel_rfl
theorem tyZ68 : tyZ Tryz.prog 68 = some [.string ⟨#[]⟩, .string ⟨#[]⟩, .string ⟨#[]⟩, .string ⟨#[]⟩] := by kernel_rfl
theorem tyZ89 : tyZ Tryz.prog 89 = some [.pointer none, .slice none 0 0] := by kernel_rfl
theorem tyZ117 : tyZ Tryz.prog 117 = some [.int .u64 0] := by kernel_rfl
theorem tyZ134 : tyZ Tryz.prog 134 = some [.int .u8 0, .int .u8 0] := by kernel_rfl
theorem tyZ135 : tyZ Tryz.prog 135 = some [.int .u8 0, .int .u8 0, .int .u8 0, .int .u8 0, .int .u8 0, .int .u8 0, .int .u8 0, .int .u8 0, .int .u8 0, .int .u8 0, .int .u8 0, .int .u8 0, .int .u8 0, .int .u8 0, .int .u8 0, .int .u8 0, .int .u8 0, .int .u8 0, .int .u8 0, .int .u8 0, .int .u8 0, .int .u8 0, .int .u8 0, .int .u8 0, .int .u8 0, .int .u8 0, .int .u8 0, .int .u8 0, .int .u8 0, .int .u8 0, .int .u8 0, .int .u8 0] := by kernel_rfl
theorem tyF25_0 : tyF Tryz.prog 25 0 = some (0, 22) := by kernel_rfl
theorem tyF25_1 : tyF Tryz.prog 25 1 = some (1, 3) := by kernel_rfl
theorem tyF42_0 : tyF Tryz.prog 42 0 = some (0, 9) := by kernel_rfl
theorem tyF42_1 : tyF Tryz.prog 42 1 = some (1, 9) := by kernel_rfl
theorem tyF42_2 : tyF Tryz.prog 42 2 = some (2, 9) := by kernel_rfl
theorem tyF42_3 : tyF Tryz.prog 42 3 = some (3, 9) := by kernel_rfl
theorem tyF42_4 : tyF Tryz.prog 42 4 = some (4, 26) := by kernel_rfl
theorem tyF42_5 : tyF Tryz.prog 42 5 = some (5, 26) := by kernel_rfl
theorem tyF42_6 : tyF Tryz.prog 42 6 = some (6, 3) := by kernel_rfl
theorem tyF42_7 : tyF Tryz.prog 42 7 = some (7, 3) := by kernel_rfl
theorem tyF48_0 : tyF Tryz.prog 48 0 = some (0, 3) := by kernel_rfl
theorem tyF48_1 : tyF Tryz.prog 48 1 = some (1, 3) := by kernel_rfl
theorem tyF89_0 : tyF Tryz.prog 89 0 = some (0, 87) := by kernel_rfl
theorem tyF89_1 : tyF Tryz.prog 89 1 = some (1, 82) := by kernel_rfl
theorem tyF134_0 : tyF Tryz.prog 134 0 = some (0, 5) := by kernel_rfl
theorem tyF134_1 : tyF Tryz.prog 134 1 = some (1, 5) := by kernel_rfl
theorem tyE22 : tyE Tryz.prog 22 = some (3, 1) := by kernel_rfl
theorem tyL22 : Elem Tryz.prog 22 3 1 8 := Elem.mk (z := .int .i64 0) (by kernel_rfl) (by kernel_rfl) rfl (by decide)
theorem tyE26 : tyE Tryz.prog 26 = some (9, 1) := by kernel_rfl
theorem tyL26 : Elem Tryz.prog 26 9 1 16 := Elem.mk (z := .string ⟨#[]⟩) (by kernel_rfl) (by kernel_rfl) rfl (by decide)
theorem tyE52 : tyE Tryz.prog 52 = some (42, 8) := by kernel_rfl
theorem tyL52 : Elem Tryz.prog 52 42 8 128 := Elem.mk (z := .agg #[.string ⟨#[]⟩, .string ⟨#[]⟩, .string ⟨#[]⟩, .string ⟨#[]⟩, .slice none 0 0, .slice none 0 0, .int .i64 0, .int .i64 0]) (by kernel_rfl) (by kernel_rfl) rfl (by decide)
theorem tyE60 : tyE Tryz.prog 60 = some (28, 1) := by kernel_rfl
theorem tyL60 : Elem Tryz.prog 60 28 1 8 := Elem.mk (z := .int .i64 0) (by kernel_rfl) (by kernel_rfl) rfl (by decide)
theorem tyE66 : tyE Tryz.prog 66 = some (26, 1) := by kernel_rfl
theorem tyL66 : Elem Tryz.prog 66 26 1 24 := Elem.mk (z := .slice none 0 0) (by kernel_rfl) (by kernel_rfl) rfl (by decide)
theorem tyE82 : tyE Tryz.prog 82 = some (5, 1) := by kernel_rfl
theorem tyL82 : Elem Tryz.prog 82 5 1 1 := Elem.mk (z := .int .u8 0) (by kernel_rfl) (by kernel_rfl) rfl (by decide)
theorem tyU3 : Tryz.prog.underlying 3 = some (.int .i64) := by kernel_rfl
theorem tyU4 : Tryz.prog.underlying 4 = some .bool := by kernel_rfl
theorem tyU5 : Tryz.prog.underlying 5 = some (.int .u8) := by kernel_rfl
theorem tyU9 : Tryz.prog.underlying 9 = some .string := by kernel_rfl
theorem tyU21 : Tryz.prog.underlying 21 = some (.int .i32) := by kernel_rfl
theorem tyU22 : Tryz.prog.underlying 22 = some (.slice 3) := by kernel_rfl
theorem tyU23 : Tryz.prog.underlying 23 = some (.pointer 25) := by kernel_rfl
theorem tyU26 : Tryz.prog.underlying 26 = some (.slice 9) := by kernel_rfl
theorem tyU28 : Tryz.prog.underlying 28 = some (.int .i64) := by kernel_rfl
theorem tyU52 : Tryz.prog.underlying 52 = some (.slice 42) := by kernel_rfl
theorem tyU60 : Tryz.prog.underlying 60 = some (.slice 28) := by kernel_rfl
theorem tyU66 : Tryz.prog.underlying 66 = some (.slice 26) := by kernel_rfl
theorem tyU68 : Tryz.prog.underlying 68 = some (.array 4 9) := by kernel_rfl
theorem tyU80 : Tryz.prog.underlying 80 = some (.int .u64) := by kernel_rfl
theorem tyU82 : Tryz.prog.underlying 82 = some (.slice 5) := by kernel_rfl
theorem tyU87 : Tryz.prog.underlying 87 = some (.pointer 89) := by kernel_rfl
theorem tyU98 : Tryz.prog.underlying 98 = some (.int .i64) := by kernel_rfl
theorem tyU106 : Tryz.prog.underlying 106 = some (.int .u32) := by kernel_rfl
theorem tyU108 : Tryz.prog.underlying 108 = some (.int .u64) := by kernel_rfl
theorem tyU114 : Tryz.prog.underlying 114 = some (.pointer 5) := by kernel_rfl
theorem tyU117 : Tryz.prog.underlying 117 = some (.int .u64) := by kernel_rfl
theorem tyU121 : Tryz.prog.underlying 121 = some (.pointer 3) := by kernel_rfl
theorem tyU132 : Tryz.prog.underlying 132 = some (.array 256 5) := by kernel_rfl
theorem tyU135 : Tryz.prog.underlying 135 = some (.array 16 134) := by kernel_rfl
end Go.Proofs.YtpeeeanmfmhlgaaGreatDoor
