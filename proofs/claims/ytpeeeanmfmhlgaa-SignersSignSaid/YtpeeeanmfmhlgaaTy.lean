/- Facts on the types of the program: read off its tables. Printed by a program. -/
import Derived.Test.YtpeeeanmfmhlgaaRows
import Derived.Test.YtpeeeanmfmhlgaaMb
namespace Go.Proofs.Ytpeeeanmfmhlgaa

theorem mixed : Try.prog.follows .mixedOrders = true := by kernel_rfl
theorem tyS3 : tyS Try.prog 3 = some (false, 1) := by kernel_rfl
theorem tyS4 : tyS Try.prog 4 = some (false, 1) := by kernel_rfl
theorem tyS5 : tyS Try.prog 5 = some (false, 1) := by kernel_rfl
theorem tyS9 : tyS Try.prog 9 = some (false, 1) := by kernel_rfl
theorem tyS22 : tyS Try.prog 22 = some (false, 1) := by kernel_rfl
theorem tyS25 : tyS Try.prog 25 = some (true, 2) := by kernel_rfl
theorem tyS26 : tyS Try.prog 26 = some (false, 1) := by kernel_rfl
theorem tyS32 : tyS Try.prog 32 = some (false, 1) := by kernel_rfl
theorem tyS38 : tyS Try.prog 38 = some (true, 5) := by kernel_rfl
theorem tyS42 : tyS Try.prog 42 = some (true, 2) := by kernel_rfl
theorem tyS80 : tyS Try.prog 80 = some (false, 1) := by kernel_rfl
theorem tyS81 : tyS Try.prog 81 = some (false, 1) := by kernel_rfl
theorem tyS83 : tyS Try.prog 83 = some (true, 2) := by kernel_rfl
theorem tyS116 : tyS Try.prog 116 = some (false, 1) := by kernel_rfl
theorem tyP25 : tyP Try.prog 25 = some [(0, 1), (1, 1)] := by kernel_rfl
theorem tyP38 : tyP Try.prog 38 = some [(0, 1), (1, 1), (2, 1), (3, 1), (4, 1)] := by kernel_rfl
theorem tyP42 : tyP Try.prog 42 = some [(0, 1), (1, 1)] := by kernel_rfl
theorem tyP83 : tyP Try.prog 83 = some [(0, 1), (1, 1)] := by kernel_rfl
theorem tyZ3 : tyZ Try.prog 3 = some [.int .i64 0] := by kernel_rfl
theorem tyZ4 : tyZ Try.prog 4 = some [.bool false] := by kernel_rfl
theorem tyZ5 : tyZ Try.prog 5 = some [.int .u8 0] := by kernel_rfl
theorem tyZ9 : tyZ Try.prog 9 = some [.string ⟨#[]⟩] := by kernel_rfl
theorem tyZ25 : tyZ Try.prog 25 = some [.slice none 0 0, .int .i64 0] := by kernel_rfl
theorem tyZ32 : tyZ Try.prog 32 = some [.int .i64 0] := by kernel_rfl
theorem tyZ38 : tyZ Try.prog 38 = some [.string ⟨#[]⟩, .string ⟨#[]⟩, .int .i64 0, .int .i64 0, .int .i64 0] := by kernel_rfl
theorem tyZ42 : tyZ Try.prog 42 = some [.int .i64 0, .int .i64 0] := by kernel_rfl
theorem tyZ83 : tyZ Try.prog 83 = some [.pointer none, .slice none 0 0] := by kernel_rfl
theorem tyZ116 : tyZ Try.prog 116 = some [.int .u64 0] := by kernel_rfl
theorem tyF25_0 : tyF Try.prog 25 0 = some (0, 22) := by kernel_rfl
theorem tyF25_1 : tyF Try.prog 25 1 = some (1, 3) := by kernel_rfl
theorem tyF38_0 : tyF Try.prog 38 0 = some (0, 9) := by kernel_rfl
theorem tyF38_1 : tyF Try.prog 38 1 = some (1, 9) := by kernel_rfl
theorem tyF38_2 : tyF Try.prog 38 2 = some (2, 3) := by kernel_rfl
theorem tyF38_3 : tyF Try.prog 38 3 = some (3, 3) := by kernel_rfl
theorem tyF38_4 : tyF Try.prog 38 4 = some (4, 3) := by kernel_rfl
theorem tyF42_0 : tyF Try.prog 42 0 = some (0, 3) := by kernel_rfl
theorem tyF42_1 : tyF Try.prog 42 1 = some (1, 3) := by kernel_rfl
theorem tyF83_0 : tyF Try.prog 83 0 = some (0, 80) := by kernel_rfl
theorem tyF83_1 : tyF Try.prog 83 1 = some (1, 81) := by kernel_rfl
theorem tyE22 : tyE Try.prog 22 = some (3, 1) := by kernel_rfl
theorem tyL22 : Elem Try.prog 22 3 1 8 := Elem.mk (z := .int .i64 0) (by kernel_rfl) (by kernel_rfl) rfl (by decide)
theorem tyE26 : tyE Try.prog 26 = some (38, 5) := by kernel_rfl
theorem tyL26 : Elem Try.prog 26 38 5 56 := Elem.mk (z := .agg #[.string ⟨#[]⟩, .string ⟨#[]⟩, .int .i64 0, .int .i64 0, .int .i64 0]) (by kernel_rfl) (by kernel_rfl) rfl (by decide)
theorem tyE47 : tyE Try.prog 47 = some (42, 2) := by kernel_rfl
theorem tyL47 : Elem Try.prog 47 42 2 16 := Elem.mk (z := .agg #[.int .i64 0, .int .i64 0]) (by kernel_rfl) (by kernel_rfl) rfl (by decide)
theorem tyE59 : tyE Try.prog 59 = some (9, 1) := by kernel_rfl
theorem tyL59 : Elem Try.prog 59 9 1 16 := Elem.mk (z := .string ⟨#[]⟩) (by kernel_rfl) (by kernel_rfl) rfl (by decide)
theorem tyE72 : tyE Try.prog 72 = some (32, 1) := by kernel_rfl
theorem tyL72 : Elem Try.prog 72 32 1 8 := Elem.mk (z := .int .i64 0) (by kernel_rfl) (by kernel_rfl) rfl (by decide)
theorem tyE81 : tyE Try.prog 81 = some (5, 1) := by kernel_rfl
theorem tyL81 : Elem Try.prog 81 5 1 1 := Elem.mk (z := .int .u8 0) (by kernel_rfl) (by kernel_rfl) rfl (by decide)
theorem tyU3 : Try.prog.underlying 3 = some (.int .i64) := by kernel_rfl
theorem tyU4 : Try.prog.underlying 4 = some .bool := by kernel_rfl
theorem tyU5 : Try.prog.underlying 5 = some (.int .u8) := by kernel_rfl
theorem tyU9 : Try.prog.underlying 9 = some .string := by kernel_rfl
theorem tyU22 : Try.prog.underlying 22 = some (.slice 3) := by kernel_rfl
theorem tyU23 : Try.prog.underlying 23 = some (.pointer 25) := by kernel_rfl
theorem tyU26 : Try.prog.underlying 26 = some (.slice 38) := by kernel_rfl
theorem tyU32 : Try.prog.underlying 32 = some (.int .i64) := by kernel_rfl
theorem tyU47 : Try.prog.underlying 47 = some (.slice 42) := by kernel_rfl
theorem tyU59 : Try.prog.underlying 59 = some (.slice 9) := by kernel_rfl
theorem tyU72 : Try.prog.underlying 72 = some (.slice 32) := by kernel_rfl
theorem tyU76 : Try.prog.underlying 76 = some (.int .u64) := by kernel_rfl
theorem tyU80 : Try.prog.underlying 80 = some (.pointer 83) := by kernel_rfl
theorem tyU81 : Try.prog.underlying 81 = some (.slice 5) := by kernel_rfl
theorem tyU94 : Try.prog.underlying 94 = some (.int .u32) := by kernel_rfl
theorem tyU97 : Try.prog.underlying 97 = some (.int .u64) := by kernel_rfl
theorem tyU100 : Try.prog.underlying 100 = some (.pointer 5) := by kernel_rfl
theorem tyU103 : Try.prog.underlying 103 = some (.int .i64) := by kernel_rfl
theorem tyU116 : Try.prog.underlying 116 = some (.int .u64) := by kernel_rfl
theorem tyU120 : Try.prog.underlying 120 = some (.pointer 3) := by kernel_rfl
theorem tyQ38 : tyQ Try.prog 38 = some [.string, .string, .int .i64, .int .i64, .int .i64] := by kernel_rfl
theorem tyQ42 : tyQ Try.prog 42 = some [.int .i64, .int .i64] := by kernel_rfl
end Go.Proofs.Ytpeeeanmfmhlgaa
