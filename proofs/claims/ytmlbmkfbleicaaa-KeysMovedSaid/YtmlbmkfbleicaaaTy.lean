/- Facts on the types of the program: read off its tables. Printed by a program. -/
import Derived.Test.YtmlbmkfbleicaaaRows
import Derived.Test.YtmlbmkfbleicaaaMb
namespace Go.Proofs.Ytmlbmkfbleicaaa

theorem mixed : Try.prog.follows .mixedOrders = true := by kernel_rfl
theorem tyS3 : tyS Try.prog 3 = some (false, 1) := by kernel_rfl
theorem tyS5 : tyS Try.prog 5 = some (false, 1) := by kernel_rfl
theorem tyS9 : tyS Try.prog 9 = some (false, 1) := by kernel_rfl
theorem tyS22 : tyS Try.prog 22 = some (false, 1) := by kernel_rfl
theorem tyS25 : tyS Try.prog 25 = some (true, 2) := by kernel_rfl
theorem tyS32 : tyS Try.prog 32 = some (false, 1) := by kernel_rfl
theorem tyS45 : tyS Try.prog 45 = some (true, 2) := by kernel_rfl
theorem tyS47 : tyS Try.prog 47 = some (true, 2) := by kernel_rfl
theorem tyS55 : tyS Try.prog 55 = some (false, 1) := by kernel_rfl
theorem tyS83 : tyS Try.prog 83 = some (false, 1) := by kernel_rfl
theorem tyS84 : tyS Try.prog 84 = some (false, 1) := by kernel_rfl
theorem tyS86 : tyS Try.prog 86 = some (true, 2) := by kernel_rfl
theorem tyS95 : tyS Try.prog 95 = some (false, 1) := by kernel_rfl
theorem tyP25 : tyP Try.prog 25 = some [(0, 1), (1, 1)] := by kernel_rfl
theorem tyP45 : tyP Try.prog 45 = some [(0, 1), (1, 1)] := by kernel_rfl
theorem tyP86 : tyP Try.prog 86 = some [(0, 1), (1, 1)] := by kernel_rfl
theorem tyZ3 : tyZ Try.prog 3 = some [.int .i64 0] := by kernel_rfl
theorem tyZ5 : tyZ Try.prog 5 = some [.int .u8 0] := by kernel_rfl
theorem tyZ9 : tyZ Try.prog 9 = some [.string ⟨#[]⟩] := by kernel_rfl
theorem tyZ25 : tyZ Try.prog 25 = some [.slice none 0 0, .int .i64 0] := by kernel_rfl
theorem tyZ32 : tyZ Try.prog 32 = some [.int .i64 0] := by kernel_rfl
theorem tyZ45 : tyZ Try.prog 45 = some [.string ⟨#[]⟩, .int .i64 0] := by kernel_rfl
theorem tyZ47 : tyZ Try.prog 47 = some [.slice none 0 0, .slice none 0 0] := by kernel_rfl
theorem tyZ55 : tyZ Try.prog 55 = some [.map none] := by kernel_rfl
theorem tyZ86 : tyZ Try.prog 86 = some [.pointer none, .slice none 0 0] := by kernel_rfl
theorem tyZ95 : tyZ Try.prog 95 = some [.int .u64 0] := by kernel_rfl
theorem tyF25_0 : tyF Try.prog 25 0 = some (0, 22) := by kernel_rfl
theorem tyF25_1 : tyF Try.prog 25 1 = some (1, 3) := by kernel_rfl
theorem tyF45_0 : tyF Try.prog 45 0 = some (0, 9) := by kernel_rfl
theorem tyF45_1 : tyF Try.prog 45 1 = some (1, 3) := by kernel_rfl
theorem tyF86_0 : tyF Try.prog 86 0 = some (0, 83) := by kernel_rfl
theorem tyF86_1 : tyF Try.prog 86 1 = some (1, 84) := by kernel_rfl
theorem tyE22 : tyE Try.prog 22 = some (3, 1) := by kernel_rfl
theorem tyL22 : Elem Try.prog 22 3 1 8 := Elem.mk (z := .int .i64 0) (by kernel_rfl) (by kernel_rfl) rfl (by decide)
theorem tyE26 : tyE Try.prog 26 = some (45, 2) := by kernel_rfl
theorem tyL26 : Elem Try.prog 26 45 2 24 := Elem.mk (z := .agg #[.string ⟨#[]⟩, .int .i64 0]) (by kernel_rfl) (by kernel_rfl) rfl (by decide)
theorem tyE28 : tyE Try.prog 28 = some (9, 1) := by kernel_rfl
theorem tyL28 : Elem Try.prog 28 9 1 16 := Elem.mk (z := .string ⟨#[]⟩) (by kernel_rfl) (by kernel_rfl) rfl (by decide)
theorem tyE49 : tyE Try.prog 49 = some (32, 1) := by kernel_rfl
theorem tyL49 : Elem Try.prog 49 32 1 8 := Elem.mk (z := .int .i64 0) (by kernel_rfl) (by kernel_rfl) rfl (by decide)
theorem tyE84 : tyE Try.prog 84 = some (5, 1) := by kernel_rfl
theorem tyL84 : Elem Try.prog 84 5 1 1 := Elem.mk (z := .int .u8 0) (by kernel_rfl) (by kernel_rfl) rfl (by decide)
theorem tyU3 : Try.prog.underlying 3 = some (.int .i64) := by kernel_rfl
theorem tyU4 : Try.prog.underlying 4 = some .bool := by kernel_rfl
theorem tyU5 : Try.prog.underlying 5 = some (.int .u8) := by kernel_rfl
theorem tyU9 : Try.prog.underlying 9 = some .string := by kernel_rfl
theorem tyU22 : Try.prog.underlying 22 = some (.slice 3) := by kernel_rfl
theorem tyU23 : Try.prog.underlying 23 = some (.pointer 25) := by kernel_rfl
theorem tyU26 : Try.prog.underlying 26 = some (.slice 45) := by kernel_rfl
theorem tyU28 : Try.prog.underlying 28 = some (.slice 9) := by kernel_rfl
theorem tyU32 : Try.prog.underlying 32 = some (.int .i64) := by kernel_rfl
theorem tyU47 : Try.prog.underlying 47 = some (.array 2 26) := by kernel_rfl
theorem tyU49 : Try.prog.underlying 49 = some (.slice 32) := by kernel_rfl
theorem tyM55 : tyMI Try.prog 55 9 3 := ⟨by kernel_rfl, by kernel_rfl, by kernel_rfl, fun w => by kernel_rfl⟩
theorem tyU56 : Try.prog.underlying 56 = some (.int .u64) := by kernel_rfl
theorem tyU65 : Try.prog.underlying 65 = some (.int .u64) := by kernel_rfl
theorem tyU73 : Try.prog.underlying 73 = some (.int .i64) := by kernel_rfl
theorem tyU81 : Try.prog.underlying 81 = some (.int .u32) := by kernel_rfl
theorem tyU83 : Try.prog.underlying 83 = some (.pointer 86) := by kernel_rfl
theorem tyU84 : Try.prog.underlying 84 = some (.slice 5) := by kernel_rfl
theorem tyU95 : Try.prog.underlying 95 = some (.int .u64) := by kernel_rfl
theorem tyU99 : Try.prog.underlying 99 = some (.pointer 3) := by kernel_rfl
theorem tyU101 : Try.prog.underlying 101 = some (.pointer 5) := by kernel_rfl
end Go.Proofs.Ytmlbmkfbleicaaa
