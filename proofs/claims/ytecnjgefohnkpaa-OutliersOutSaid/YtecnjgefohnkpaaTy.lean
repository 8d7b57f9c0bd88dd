/- Facts on the types of the program: read off its tables. Printed by a program. -/
import Derived.Test.YtecnjgefohnkpaaRows
import Derived.Test.YtecnjgefohnkpaaMb
namespace Go.Proofs.Ytecnjgefohnkpaa

theorem mixed : Try.prog.follows .mixedOrders = true := by kernel_rfl
theorem tyS3 : tyS Try.prog 3 = some (false, 1) := by kernel_rfl
theorem tyS9 : tyS Try.prog 9 = some (false, 1) := by kernel_rfl
theorem tyS22 : tyS Try.prog 22 = some (false, 1) := by kernel_rfl
theorem tyS25 : tyS Try.prog 25 = some (true, 2) := by kernel_rfl
theorem tyS26 : tyS Try.prog 26 = some (false, 1) := by kernel_rfl
theorem tyS29 : tyS Try.prog 29 = some (true, 4) := by kernel_rfl
theorem tyS35 : tyS Try.prog 35 = some (false, 1) := by kernel_rfl
theorem tyS50 : tyS Try.prog 50 = some (true, 2) := by kernel_rfl
theorem tyS56 : tyS Try.prog 56 = some (true, 3) := by kernel_rfl
theorem tyS58 : tyS Try.prog 58 = some (false, 1) := by kernel_rfl
theorem tyS60 : tyS Try.prog 60 = some (true, 5) := by kernel_rfl
theorem tyS80 : tyS Try.prog 80 = some (true, 3) := by kernel_rfl
theorem tyS85 : tyS Try.prog 85 = some (false, 1) := by kernel_rfl
theorem tyS87 : tyS Try.prog 87 = some (true, 8) := by kernel_rfl
theorem tyP25 : tyP Try.prog 25 = some [(0, 1), (1, 1)] := by kernel_rfl
theorem tyP29 : tyP Try.prog 29 = some [(0, 1), (1, 1), (2, 1), (3, 1)] := by kernel_rfl
theorem tyP50 : tyP Try.prog 50 = some [(0, 1), (1, 1)] := by kernel_rfl
theorem tyP56 : tyP Try.prog 56 = some [(0, 1), (1, 1), (2, 1)] := by kernel_rfl
theorem tyP60 : tyP Try.prog 60 = some [(0, 4), (4, 1)] := by kernel_rfl
theorem tyP80 : tyP Try.prog 80 = some [(0, 1), (1, 1), (2, 1)] := by kernel_rfl
theorem tyP87 : tyP Try.prog 87 = some [(0, 1), (1, 4), (5, 1), (6, 1), (7, 1)] := by kernel_rfl
theorem tyZ3 : tyZ Try.prog 3 = some [.int .i64 0] := by kernel_rfl
theorem tyZ9 : tyZ Try.prog 9 = some [.string ⟨#[]⟩] := by kernel_rfl
theorem tyZ25 : tyZ Try.prog 25 = some [.slice none 0 0, .int .i64 0] := by kernel_rfl
theorem tyZ29 : tyZ Try.prog 29 = some [.int .i64 0, .int .i64 0, .int .i64 0, .int .i64 0] := by kernel_rfl
theorem tyZ35 : tyZ Try.prog 35 = some [.int .i64 0] := by kernel_rfl
theorem tyZ50 : tyZ Try.prog 50 = some [.string ⟨#[]⟩, .int .i64 0] := by kernel_rfl
theorem tyZ56 : tyZ Try.prog 56 = some [.int .i64 0, .string ⟨#[]⟩, .int .i64 0] := by kernel_rfl
theorem tyZ60 : tyZ Try.prog 60 = some [.int .i64 0, .int .i64 0, .int .i64 0, .int .i64 0, .slice none 0 0] := by kernel_rfl
theorem tyZ80 : tyZ Try.prog 80 = some [.int .i64 0, .int .i64 0, .int .i64 0] := by kernel_rfl
theorem tyZ87 : tyZ Try.prog 87 = some [.slice none 0 0, .int .i64 0, .int .i64 0, .int .i64 0, .int .i64 0, .map none, .map none, .map none] := by kernel_rfl
theorem tyF25_0 : tyF Try.prog 25 0 = some (0, 22) := by kernel_rfl
theorem tyF25_1 : tyF Try.prog 25 1 = some (1, 3) := by kernel_rfl
theorem tyF29_0 : tyF Try.prog 29 0 = some (0, 3) := by kernel_rfl
theorem tyF29_1 : tyF Try.prog 29 1 = some (1, 3) := by kernel_rfl
theorem tyF29_2 : tyF Try.prog 29 2 = some (2, 3) := by kernel_rfl
theorem tyF29_3 : tyF Try.prog 29 3 = some (3, 3) := by kernel_rfl
theorem tyF50_0 : tyF Try.prog 50 0 = some (0, 9) := by kernel_rfl
theorem tyF50_1 : tyF Try.prog 50 1 = some (1, 3) := by kernel_rfl
theorem tyF56_0 : tyF Try.prog 56 0 = some (0, 3) := by kernel_rfl
theorem tyF56_1 : tyF Try.prog 56 1 = some (1, 9) := by kernel_rfl
theorem tyF56_2 : tyF Try.prog 56 2 = some (2, 3) := by kernel_rfl
theorem tyF60_0 : tyF Try.prog 60 0 = some (0, 29) := by kernel_rfl
theorem tyF60_1 : tyF Try.prog 60 1 = some (4, 58) := by kernel_rfl
theorem tyF80_0 : tyF Try.prog 80 0 = some (0, 3) := by kernel_rfl
theorem tyF80_1 : tyF Try.prog 80 1 = some (1, 3) := by kernel_rfl
theorem tyF80_2 : tyF Try.prog 80 2 = some (2, 3) := by kernel_rfl
theorem tyF87_0 : tyF Try.prog 87 0 = some (0, 26) := by kernel_rfl
theorem tyF87_1 : tyF Try.prog 87 1 = some (1, 29) := by kernel_rfl
theorem tyF87_2 : tyF Try.prog 87 2 = some (5, 85) := by kernel_rfl
theorem tyF87_3 : tyF Try.prog 87 3 = some (6, 85) := by kernel_rfl
theorem tyF87_4 : tyF Try.prog 87 4 = some (7, 85) := by kernel_rfl
theorem tyE22 : tyE Try.prog 22 = some (3, 1) := by kernel_rfl
theorem tyL22 : Elem Try.prog 22 3 1 8 := Elem.mk (z := .int .i64 0) (by kernel_rfl) (by kernel_rfl) rfl (by decide)
theorem tyE26 : tyE Try.prog 26 = some (50, 2) := by kernel_rfl
theorem tyL26 : Elem Try.prog 26 50 2 24 := Elem.mk (z := .agg #[.string ⟨#[]⟩, .int .i64 0]) (by kernel_rfl) (by kernel_rfl) rfl (by decide)
theorem tyE32 : tyE Try.prog 32 = some (56, 3) := by kernel_rfl
theorem tyL32 : Elem Try.prog 32 56 3 32 := Elem.mk (z := .agg #[.int .i64 0, .string ⟨#[]⟩, .int .i64 0]) (by kernel_rfl) (by kernel_rfl) rfl (by decide)
theorem tyE34 : tyE Try.prog 34 = some (9, 1) := by kernel_rfl
theorem tyL34 : Elem Try.prog 34 9 1 16 := Elem.mk (z := .string ⟨#[]⟩) (by kernel_rfl) (by kernel_rfl) rfl (by decide)
theorem tyE58 : tyE Try.prog 58 = some (80, 3) := by kernel_rfl
theorem tyL58 : Elem Try.prog 58 80 3 24 := Elem.mk (z := .agg #[.int .i64 0, .int .i64 0, .int .i64 0]) (by kernel_rfl) (by kernel_rfl) rfl (by decide)
theorem tyE67 : tyE Try.prog 67 = some (35, 1) := by kernel_rfl
theorem tyL67 : Elem Try.prog 67 35 1 8 := Elem.mk (z := .int .i64 0) (by kernel_rfl) (by kernel_rfl) rfl (by decide)
theorem tyU3 : Try.prog.underlying 3 = some (.int .i64) := by kernel_rfl
theorem tyU4 : Try.prog.underlying 4 = some .bool := by kernel_rfl
theorem tyU5 : Try.prog.underlying 5 = some (.int .u8) := by kernel_rfl
theorem tyU9 : Try.prog.underlying 9 = some .string := by kernel_rfl
theorem tyU22 : Try.prog.underlying 22 = some (.slice 3) := by kernel_rfl
theorem tyU23 : Try.prog.underlying 23 = some (.pointer 25) := by kernel_rfl
theorem tyU26 : Try.prog.underlying 26 = some (.slice 50) := by kernel_rfl
theorem tyU32 : Try.prog.underlying 32 = some (.slice 56) := by kernel_rfl
theorem tyU34 : Try.prog.underlying 34 = some (.slice 9) := by kernel_rfl
theorem tyU35 : Try.prog.underlying 35 = some (.int .i64) := by kernel_rfl
theorem tyU57 : Try.prog.underlying 57 = some (.pointer 60) := by kernel_rfl
theorem tyU58 : Try.prog.underlying 58 = some (.slice 80) := by kernel_rfl
theorem tyU67 : Try.prog.underlying 67 = some (.slice 35) := by kernel_rfl
theorem tyU70 : Try.prog.underlying 70 = some (.pointer 87) := by kernel_rfl
theorem tyM85 : tyMI Try.prog 85 9 3 := ⟨by kernel_rfl, by kernel_rfl, by kernel_rfl, fun w => by kernel_rfl⟩
theorem tyU89 : Try.prog.underlying 89 = some (.int .u64) := by kernel_rfl
end Go.Proofs.Ytecnjgefohnkpaa
